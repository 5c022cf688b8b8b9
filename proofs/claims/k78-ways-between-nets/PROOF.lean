import PyProof.Rows.All
import Wide.All
import OpenK.AllK
import Wide.FinOn
import HandS.ForMost
import HandS.Deep
import HandS.Lambda
import HandS.Comp
import HandS.Exc
import HandS.TryOnly
import HandS.ExcOwn
import HandS.WordsExc
import HandS.More
import HandS.TupAny
import HandS.TupMul
import HandS.Style
import HandS.IsInst
import KE.SortUse
import KE.DataCmp
import KE.DataMinMax
import HandS.Conv
import HandS.ExcInit
import HandS.ExcField
import HandS.Rev
import HandS.RevRange
import HandS.SetFor
import KE.SortKeyed
import PyProof.DictMoreH
import KE.KDictLaws
import HandS.CallLocal
import HandS.TryMany
import KE.KSuper
import KE.KExcSuper
import HandS.EndTab
import KE.DatumOrd
import KE.KNestM
import PySem.Challenge.RW_pointwright_k78_whole_ways_between_nets
set_option Elab.async false
set_option linter.all false
set_option maxRecDepth 100000
set_option maxHeartbeats 4000000
namespace MP
open PySem PySem.Spec PyProof.Rows L2

/-! values as trees -/
inductive D where
  | non | bl (b : Bool) | int (i : Int) | str (s : Str)
  | tup (xs : List D) | lst (xs : List D)

/-- how lists lie in an owned thing: as a list's items, as a dict's values (its keys), as the second parts of a list's pairs (their first parts) -/
inductive Shp where
  | rows | dic (ks : List D) (t : Bool) | prs (xs : List D)
inductive Sl where
  | no | va (d : D) | ow (d : D) | bo (d : D) | sc (ns : List Int) | dc (kvs : List (D × D)) (t : Bool) | fn (x : Str) | ne (sh : Shp) (rows : List (List D))
abbrev Store := List Sl

inductive R (α : Type) where
  | ok (a : α) | exc (c : Str) (p : D) | bad
def R.bind {α β : Type} : R α → (α → R β) → R β
  | .ok a, k => k a
  | .exc c p, _ => .exc c p
  | .bad, _ => .bad
@[simp] theorem R.bind_ok {α β : Type} (a : α) (k : α → R β) : (R.ok a).bind k = k a := rfl
@[simp] theorem R.bind_exc {α β : Type} (c : Str) (p : D) (k : α → R β) : (R.exc c p : R α).bind k = .exc c p := rfl
@[simp] theorem R.bind_bad {α β : Type} (k : α → R β) : (R.bad : R α).bind k = .bad := rfl

/-- what a statement ends with -/
inductive FR where
  | next (ρ : Store) | ret (d : D) (ρ : Store) | brk (ρ : Store) | cnt (ρ : Store) | exc (c : Str) (p : D) | bad
def R.thenS {α : Type} (r : R α) (k : α → FR) : FR := match r with
  | .ok a => k a
  | .exc c p => .exc c p
  | .bad => .bad
@[simp] theorem R.thenS_ok {α : Type} (a : α) (k : α → FR) : (R.ok a).thenS k = k a := rfl
@[simp] theorem R.thenS_exc {α : Type} (c : Str) (p : D) (k : α → FR) : (R.exc c p : R α).thenS k = .exc c p := rfl
@[simp] theorem R.thenS_bad {α : Type} (k : α → FR) : (R.bad : R α).thenS k = .bad := rfl
def FR.bind : FR → (Store → FR) → FR
  | .next ρ, k => k ρ
  | r, _ => r
@[simp] theorem FR.bind_next (ρ : Store) (k : Store → FR) : (FR.next ρ).bind k = k ρ := rfl
@[simp] theorem FR.bind_ret (d : D) (ρ : Store) (k : Store → FR) : (FR.ret d ρ).bind k = .ret d ρ := rfl
@[simp] theorem FR.bind_brk (ρ : Store) (k : Store → FR) : (FR.brk ρ).bind k = .brk ρ := rfl
@[simp] theorem FR.bind_cnt (ρ : Store) (k : Store → FR) : (FR.cnt ρ).bind k = .cnt ρ := rfl
@[simp] theorem FR.bind_exc (c : Str) (p : D) (k : Store → FR) : (FR.exc c p).bind k = .exc c p := rfl
@[simp] theorem FR.bind_bad (k : Store → FR) : FR.bad.bind k = .bad := rfl
/-- what a loop's body ends with: go on by k, or leave -/
def FR.turn : FR → (Store → FR) → FR
  | .next ρ, k => k ρ
  | .cnt ρ, k => k ρ
  | .brk ρ, _ => .next ρ
  | r, _ => r
@[simp] theorem FR.turn_next (ρ : Store) (k : Store → FR) : (FR.next ρ).turn k = k ρ := rfl
@[simp] theorem FR.turn_ret (d : D) (ρ : Store) (k : Store → FR) : (FR.ret d ρ).turn k = .ret d ρ := rfl
@[simp] theorem FR.turn_brk (ρ : Store) (k : Store → FR) : (FR.brk ρ).turn k = .next ρ := rfl
@[simp] theorem FR.turn_cnt (ρ : Store) (k : Store → FR) : (FR.cnt ρ).turn k = k ρ := rfl
@[simp] theorem FR.turn_exc (c : Str) (p : D) (k : Store → FR) : (FR.exc c p).turn k = .exc c p := rfl
@[simp] theorem FR.turn_bad (k : Store → FR) : FR.bad.turn k = .bad := rfl

/-! the relation of a value to a tree -/
def isMut : HO → Prop
  | .lst _ => True
  | .dK _ => True
  | .dT _ => True
  | .set _ _ => True
  | .ins _ _ _ => True
  | .ext _ => True
  | _ => False
def isTbl : HO → Prop
  | .tbl _ => True
  | _ => False
/-- stands, and is not to be changed -/
def Fx (H : Hp) (M : Addr → Prop) (a : Addr) (o : HO) : Prop := H a = some o ∧ ¬ isTbl o ∧ (isMut o → ¬ M a)
def Step (H : Hp) (M : Addr → Prop) (H' : Hp) (M' : Addr → Prop) : Prop := ∀ a o, Fx H M a o → Fx H' M' a o
theorem Step.refl {H : Hp} {M : Addr → Prop} : Step H M H M := fun _ _ h => h
theorem Step.trans {H H1 H2 : Hp} {M M1 M2 : Addr → Prop} (a : Step H M H1 M1) (b : Step H1 M1 H2 M2) : Step H M H2 M2 := fun c o h => b c o (a c o h)
theorem Step.less {H : Hp} {M M' : Addr → Prop} (h : ∀ a, M' a → M a) : Step H M H M' := fun a o f => ⟨f.1, f.2.1, fun m q => f.2.2 m (h a q)⟩
/-- only new things -/
def New (H H' : Hp) : Prop := ∀ a o, H a = some o → H' a = some o
theorem New.refl {H : Hp} : New H H := fun _ _ h => h
theorem New.trans {H H1 H2 : Hp} (a : New H H1) (b : New H1 H2) : New H H2 := fun c o h => b c o (a c o h)
theorem New.step {H H' : Hp} {M : Addr → Prop} (n : New H H') : Step H M H' M := fun a o f => ⟨n a o f.1, f.2.1, f.2.2⟩
theorem New.upd {H : Hp} {p : Addr} {o : HO} (h : H p = none) : New H (upd H p o) := fun b x e => by
  rw [upd_ne (ne_of_none e h)]; exact e

/-- may constant tuples be values? (chosen by each law: false where tuples are keys of dicts) -/
def KTok : Bool := false
def KTup (K : PySem.W.Frag) (a : Addr) (vs : List V) : Prop := KTok = true ∧ ∃ (o : Obj) (its : Array Value) (n : Nat), K.lookup a = some o ∧ o.cls = .type "tuple" ∧ o.data = .seq its n ∧ its.size ≤ sizeLine ∧ Vals vs its.toList
def KLst (K : PySem.W.Frag) (a : Addr) (vs : List V) : Prop := ∃ (o : Obj) (its : Array Value) (n : Nat), K.lookup a = some o ∧ o.cls = .type "list" ∧ o.dict = none ∧ o.data = .seq its n ∧ its.size ≤ sizeLine ∧ Vals vs its.toList

mutual
inductive Rep (K : PySem.W.Frag) (H : Hp) (M : Addr → Prop) : V → D → Prop
  | non : Rep K H M .non .non
  | bl (b : Bool) : Rep K H M (.bl b) (.bl b)
  | int (i : Int) : Rep K H M (.int i) (.int i)
  | str (x : Str) (h : PyData.strOk x = true) : Rep K H M (.str x) (.str x)
  | tup {a : Addr} {vs : List V} {ds : List D} : (Fx H M a (.tup vs) ∨ KTup K a vs) → RepL K H M vs ds → Rep K H M (.ref a) (.tup ds)
  | lst {a : Addr} {vs : List V} {ds : List D} : Fx H M a (.lst vs) → RepL K H M vs ds → Rep K H M (.ref a) (.lst ds)
inductive RepL (K : PySem.W.Frag) (H : Hp) (M : Addr → Prop) : List V → List D → Prop
  | nil : RepL K H M [] []
  | cons {v : V} {vs : List V} {d : D} {ds : List D} : Rep K H M v d → RepL K H M vs ds → RepL K H M (v :: vs) (d :: ds)
end
section
variable {K : PySem.W.Frag} {τ : LTab} {H H' : Hp} {M M' : Addr → Prop}
mutual
theorem Rep.step (st : Step H M H' M') : ∀ (d : D) (v : V), Rep K H M v d → Rep K H' M' v d
  | .non, _, h => by cases h; exact .non
  | .bl b, _, h => by cases h; exact .bl b
  | .int i, _, h => by cases h; exact .int i
  | .str x, _, h => by cases h with | str _ h => exact .str x h
  | .tup ds, _, h => by
    cases h with
    | tup h1 h2 => exact .tup (h1.imp (st _ _) id) (RepL.step st ds _ h2)
  | .lst ds, _, h => by
    cases h with
    | lst h1 h2 => exact .lst (st _ _ h1) (RepL.step st ds _ h2)
theorem RepL.step (st : Step H M H' M') : ∀ (ds : List D) (vs : List V), RepL K H M vs ds → RepL K H' M' vs ds
  | [], _, h => by cases h; exact .nil
  | d :: ds, _, h => by
    cases h with
    | cons h1 h2 => exact .cons (Rep.step st d _ h1) (RepL.step st ds _ h2)
end
theorem Rep.to {d : D} {v : V} (h : Rep K H M v d) (st : Step H M H' M') : Rep K H' M' v d := Rep.step st d v h
theorem RepL.to {ds : List D} {vs : List V} (h : RepL K H M vs ds) (st : Step H M H' M') : RepL K H' M' vs ds := RepL.step st ds vs h
theorem RepL.length : ∀ {vs : List V} {ds : List D}, RepL K H M vs ds → vs.length = ds.length
  | _, _, .nil => rfl
  | _, _, .cons _ t => congrArg (· + 1) (RepL.length t)
theorem RepL.get : ∀ {vs : List V} {ds : List D} {i : Nat} {d : D}, RepL K H M vs ds → ds[i]? = some d → ∃ v, vs[i]? = some v ∧ Rep K H M v d
  | _, _, _, _, .nil, e => by simp at e
  | _, _, 0, _, .cons r _, e => by simp at e; subst e; exact ⟨_, rfl, r⟩
  | _, _, i + 1, _, .cons _ t, e => by
    obtain ⟨v, h1, h2⟩ := RepL.get (i := i) t (by simpa using e)
    exact ⟨v, by simpa using h1, h2⟩
theorem RepL.get' : ∀ {vs : List V} {ds : List D} {i : Nat} {v : V}, RepL K H M vs ds → vs[i]? = some v → ∃ d, ds[i]? = some d ∧ Rep K H M v d
  | _, _, _, _, .nil, e => by simp at e
  | _, _, 0, _, .cons r _, e => by simp at e; subst e; exact ⟨_, rfl, r⟩
  | _, _, i + 1, _, .cons _ t, e => by
    obtain ⟨v, h1, h2⟩ := RepL.get' (i := i) t (by simpa using e)
    exact ⟨v, by simpa using h1, h2⟩
theorem RepL.append : ∀ {vs ws : List V} {ds es : List D}, RepL K H M vs ds → RepL K H M ws es → RepL K H M (vs ++ ws) (ds ++ es)
  | _, _, _, _, .nil, q => q
  | _, _, _, _, .cons r t, q => .cons r (RepL.append t q)
theorem RepL.set : ∀ {vs : List V} {ds : List D} (i : Nat) {v : V} {d : D}, RepL K H M vs ds → Rep K H M v d → RepL K H M (vs.set i v) (ds.set i d)
  | _, _, _, _, _, .nil, _ => .nil
  | _, _, 0, _, _, .cons _ t, r => .cons r t
  | _, _, i + 1, _, _, .cons q t, r => .cons q (RepL.set i t r)
theorem RepL.take : ∀ {vs : List V} {ds : List D} (n : Nat), RepL K H M vs ds → RepL K H M (vs.take n) (ds.take n)
  | _, _, 0, _ => .nil
  | _, _, _ + 1, .nil => .nil
  | _, _, n + 1, .cons r t => .cons r (RepL.take n t)
theorem RepL.drop : ∀ {vs : List V} {ds : List D} (n : Nat), RepL K H M vs ds → RepL K H M (vs.drop n) (ds.drop n)
  | _, _, 0, r => r
  | _, _, _ + 1, .nil => .nil
  | _, _, n + 1, .cons _ t => RepL.drop n t
theorem RepL.reverse {vs : List V} {ds : List D} (h : RepL K H M vs ds) : RepL K H M vs.reverse ds.reverse := by
  induction ds generalizing vs with
  | nil => cases h; exact .nil
  | cons d ds ih =>
    cases h with
    | cons h1 h2 => rw [List.reverse_cons, List.reverse_cons]; exact (ih h2).append (.cons h1 .nil)
theorem RepL.eraseIdx : ∀ {vs : List V} {ds : List D} (i : Nat), RepL K H M vs ds → RepL K H M (vs.eraseIdx i) (ds.eraseIdx i)
  | _, _, _, .nil => .nil
  | _, _, 0, .cons _ t => t
  | _, _, i + 1, .cons q t => .cons q (RepL.eraseIdx i t)
theorem RepL.ints : ∀ {ns : List Int} {vs : List V}, RepL K H M vs (ns.map D.int) → vs = ns.map V.int
  | [], _, h => by cases h; rfl
  | n :: ns, _, h => by
    cases h with
    | cons h1 h2 => cases h1; rw [RepL.ints h2]; rfl
theorem repL_ints : ∀ (ns : List Int), RepL K H M (ns.map V.int) (ns.map D.int)
  | [] => .nil
  | n :: ns => .cons (.int n) (repL_ints ns)
end

/-! tables of code objects -/
abbrev LTab := List (Addr × Str)
abbrev Tabs := LamX.Tabs
theorem tabS_upd {H : Hp} {a : Addr} {o o' : HO} {P : Addr} {q : Str} (t : LamX.TabS H P q) (e : H a = some o) (h1 : ∀ ps, o ≠ .tbl ps) (h2 : ∀ c q, o ≠ LamX.CodeO c q) : LamX.TabS (upd H a o') P q := by
  obtain ⟨ps, e1, e2, e3⟩ := t
  have hP : P ≠ a := fun z => by rw [z, e] at e1; exact h1 ps (Option.some.inj e1)
  refine ⟨ps, by rw [upd_ne hP]; exact e1, e2, fun pos cv hc => ?_⟩
  obtain ⟨c, f1, f2⟩ := e3 pos cv hc
  have hc : c ≠ a := fun z => by rw [z, e] at f2; exact h2 a _ (Option.some.inj f2)
  exact ⟨c, f1, by rw [upd_ne hc]; exact f2⟩
theorem lst_ne_code {vs : List V} (c : Addr) (q : Str) : (.lst vs : HO) ≠ LamX.CodeO c q := fun z => by unfold LamX.CodeO at z; cases z
theorem tabs_lst0 {T : LTab} {H : Hp} {a : Addr} {vs : List V} {o' : HO} (t : Tabs T H) (e : H a = some (.lst vs)) : Tabs T (upd H a o') := fun p hp => tabS_upd (t p hp) e (fun _ z => by cases z) fun c q => lst_ne_code c q
theorem tabs_del0 {T : LTab} {H : Hp} {a : Addr} {vs : List V} (t : Tabs T H) (e : H a = some (.lst vs)) : Tabs T (fun b => if b = a then none else H b) := fun p hp => by
  obtain ⟨ps, e1, e2, e3⟩ := t p hp
  have hP : p.1 ≠ a := fun z => by rw [z, e] at e1; cases e1
  refine ⟨ps, by show (if p.1 = a then none else H p.1) = _; rw [if_neg hP]; exact e1, e2, fun pos cv hc => ?_⟩
  obtain ⟨c, f1, f2⟩ := e3 pos cv hc
  have hc : c ≠ a := fun z => by rw [z, e] at f2; exact lst_ne_code a _ (Option.some.inj f2)
  exact ⟨c, f1, by show (if c = a then none else H c) = _; rw [if_neg hc]; exact f2⟩
/-- what may be owned -/
def isOwn : HO → Prop
  | .lst _ => True
  | .dK _ => True
  | .dT _ => True
  | .set _ _ => True
  | .ins _ _ _ => True
  | _ => False
/-- tables known, and none of them owned -/
def TabM (τ : LTab) (H : Hp) (M : Addr → Prop) : Prop := Tabs τ H ∧ ∀ a, M a → ∃ o, H a = some o ∧ isOwn o
section
variable {τ : LTab} {H H' : Hp} {M M' : Addr → Prop}
theorem TabM.less (t : TabM τ H M) (h : ∀ a, M' a → M a) : TabM τ H M' := ⟨t.1, fun a m => t.2 a (h a m)⟩
theorem TabM.same (t : TabM τ H M) (e : ∀ a, M a → H' a = H a) (tb : Tabs τ H') : TabM τ H' M := ⟨tb, fun a m => by rw [e a m]; exact t.2 a m⟩
theorem TabM.new (t : TabM τ H M) (dom : ∀ a, M a → H a ≠ none) (n : New H H') : TabM τ H' M := t.same (fun a m => by
  cases e : H a with
  | none => exact absurd e (dom a m)
  | some o => exact n a o e) (t.1.ext n)
theorem tabs_lst {a : Addr} {vs ws : List V} (t : TabM τ H M) (e : H a = some (.lst vs)) : TabM τ (upd H a (.lst ws)) M := ⟨tabs_lst0 t.1 e, fun b m => by
  by_cases hb : b = a
  · rw [hb, upd_same]; exact ⟨_, rfl, True.intro⟩
  · rw [upd_ne hb]; exact t.2 b m⟩
theorem tabs_del {a : Addr} {vs : List V} (t : TabM τ H M) (e : H a = some (.lst vs)) : TabM τ (fun b => if b = a then none else H b) (fun b => M b ∧ b ≠ a) := ⟨tabs_del0 t.1 e, fun b m => by
  show ∃ o, (if b = a then none else H b) = some o ∧ _
  rw [if_neg m.2]; exact t.2 b m.1⟩
theorem TabM.code {a c : Addr} {q : Str} (t : TabM τ H M) (h : H a = some (LamX.CodeO c q)) : Fx H M a (LamX.CodeO c q) := ⟨h, id, fun _ m => by
  obtain ⟨o, e, h2⟩ := t.2 a m
  rw [h] at e
  cases e
  exact h2⟩
theorem TabM.ext {H' : Hp} (t : TabM τ H M) (e : LamX.ExtN H H') : Step H M H' M ∧ ∀ a, M a → H' a = H a := by
  have nt : ∀ {o : HO}, ¬ isTbl o → ∀ ps, o ≠ .tbl ps := fun h ps z => h (by rw [z]; exact True.intro)
  refine ⟨fun a o f => ⟨e a o f.1 (nt f.2.1), f.2⟩, fun a m => ?_⟩
  obtain ⟨o, h1, h2⟩ := t.2 a m
  rw [h1]
  exact e a o h1 fun ps z => by rw [z] at h2; exact h2
end
/-! frames, the store -/
structure Fr where
  M0 : Addr → Prop
  M1 : Addr → Prop
  H0 : Hp
  io : Addr → Prop

inductive OwnR (K : PySem.W.Frag) (H : Hp) (M : Addr → Prop) (a : Addr) : D → Prop
  | lst {vs : List V} {ds : List D} : H a = some (.lst vs) → RepL K H M vs ds → OwnR K H M a (.lst ds)

/-- keys of dicts -/
def keyD : Key → D
  | .inl i => .int i
  | .inr x => .str x
/-- a dict with frozen values -/
inductive DicR (K : PySem.W.Frag) (H : Hp) (M : Addr → Prop) (a : Addr) (kvs : List (D × D)) : Bool → Prop
  | k {kv : List (Key × V)} : H a = some (.dK kv) → kvs.map (·.1) = kv.map (fun p => keyD p.1) → RepL K H M (kv.map (·.2)) (kvs.map (·.2)) → DicR K H M a kvs false
  | t {kv : List (List Key × V)} : H a = some (.dT kv) → kvs.map (·.1) = kv.map (fun p => D.tup (p.1.map keyD)) → RepL K H M (kv.map (·.2)) (kvs.map (·.2)) → DicR K H M a kvs true
/-- the lists that lie in the thing at a -/
def kid1 (H : Hp) : V → Option Addr
  | .ref t => match H t with
    | some (.tup [_, .ref b]) => some b
    | _ => some t
  | _ => none
def kids (H : Hp) (a : Addr) : List Addr := match H a with
  | some (.lst vs) => vs.filterMap (kid1 H)
  | some (.dK kv) => (kv.map (·.2)).filterMap (kid1 H)
  | some (.dT kv) => (kv.map (·.2)).filterMap (kid1 H)
  | _ => []
inductive PrsR (K : PySem.W.Frag) (H : Hp) (M : Addr → Prop) : List V → List D → List Addr → Prop
  | nil : PrsR K H M [] [] []
  | cons {t b : Addr} {v : V} {x : D} {ts : List V} {xs : List D} {bs : List Addr} : H t = some (.tup [v, .ref b]) → Rep K H M v x → PrsR K H M ts xs bs → PrsR K H M (.ref t :: ts) (x :: xs) (b :: bs)
inductive OutR (K : PySem.W.Frag) (H : Hp) (M : Addr → Prop) (a : Addr) (bs : List Addr) : Shp → Prop
  | rows : H a = some (.lst (bs.map V.ref)) → OutR K H M a bs .rows
  | dK {kv : List (Key × V)} {ks : List D} : H a = some (.dK kv) → ks = kv.map (fun p => keyD p.1) → kv.map (·.2) = bs.map V.ref → OutR K H M a bs (.dic ks false)
  | dT {kv : List (List Key × V)} {ks : List D} : H a = some (.dT kv) → ks = kv.map (fun p => D.tup (p.1.map keyD)) → kv.map (·.2) = bs.map V.ref → OutR K H M a bs (.dic ks true)
  | prs {ts : List V} {xs : List D} : H a = some (.lst ts) → PrsR K H M ts xs bs → OutR K H M a bs (.prs xs)
inductive RowsR (K : PySem.W.Frag) (H : Hp) (M M0 : Addr → Prop) : List Addr → List (List D) → Prop
  | nil : RowsR K H M M0 [] []
  | cons {b : Addr} {vs : List V} {ds : List D} {bs : List Addr} {rs : List (List D)} : M b → ¬ M0 b → H b = some (.lst vs) → RepL K H M vs ds → RowsR K H M M0 bs rs → RowsR K H M M0 (b :: bs) (ds :: rs)
/-- an owned thing with owned lists in it -/
structure NeR (K : PySem.W.Frag) (M0 : Addr → Prop) (H : Hp) (M : Addr → Prop) (a : Addr) (sh : Shp) (rows : List (List D)) (bs : List Addr) : Prop where
  m : M a
  n : ¬ M0 a
  out : OutR K H M a bs sh
  rows : RowsR K H M M0 bs rows
  nd : (a :: bs).Nodup
/-- the law's script, as it stands -/
def ScR (K : PySem.W.Frag) (H : Hp) (M : Addr → Prop) (a : Addr) (ns : List Int) : Prop := (∃ o, Fx H M a (.frz o (.lst (ns.map V.int)))) ∨ Fx H M a (.lst (ns.map V.int)) ∨ KLst K a (ns.map V.int)
theorem ScR.to {K : PySem.W.Frag} {H H' : Hp} {M M' : Addr → Prop} {a : Addr} {ns : List Int} (h : ScR K H M a ns) (st : Step H M H' M') : ScR K H' M' a ns := h.imp (fun ⟨o, q⟩ => ⟨o, st _ _ q⟩) (Or.imp (st _ _) id)
inductive SlR (K : PySem.W.Frag) (F : Fr) (H : Hp) (M : Addr → Prop) : Option (Option V) → Option Sl → Prop
  | nil {x} : SlR K F H M x none
  | no {x} : SlR K F H M x (some .no)
  | va {v : V} {d : D} : Rep K H M v d → SlR K F H M (some (some v)) (some (.va d))
  | sc {a : Addr} {ns : List Int} : ScR K H M a ns → SlR K F H M (some (some (.ref a))) (some (.sc ns))
  | ow {a : Addr} {d : D} : M a → ¬ F.M0 a → OwnR K H M a d → SlR K F H M (some (some (.ref a))) (some (.ow d))
  | bo {a : Addr} {d : D} : F.M0 a → F.io a → OwnR K H M a d → SlR K F H M (some (some (.ref a))) (some (.bo d))
  | dc {a : Addr} {d : List (D × D)} {t : Bool} : M a → ¬ F.M0 a → DicR K H M a d t → SlR K F H M (some (some (.ref a))) (some (.dc d t))
  | fn {a : Addr} {x : Str} : PySem.W.nsIn K mainGlobals x = some (some (.ref a)) → SlR K F H M (some (some (.ref a))) (some (.fn x))
  | ne {a : Addr} {sh : Shp} {rows : List (List D)} {bs : List Addr} : NeR K F.M0 H M a sh rows bs → SlR K F H M (some (some (.ref a))) (some (.ne sh rows))

def Sl.own : Sl → Bool
  | .ow _ => true
  | .bo _ => true
  | .dc _ _ => true
  | .ne _ _ => true
  | _ => false
/-- what a slot owns, its thing at b -/
def Sl.owns (H : Hp) (b a : Addr) : Sl → Prop
  | .ow _ => a = b
  | .bo _ => a = b
  | .dc _ _ => a = b
  | .ne _ _ => a = b ∨ a ∈ kids H b
  | _ => False
def OwnAt (H : Hp) (σ : L2.St) (ρ : Store) (i : Nat) (a : Addr) : Prop := ∃ b x, σ[i]? = some (some (.ref b)) ∧ ρ[i]? = some x ∧ x.owns H b a
theorem Sl.owns_own {H : Hp} {b a : Addr} {x : Sl} (h : x.owns H b a) : x.own = true := by
  cases x <;> first | rfl | exact h.elim
theorem OwnAt.top {H : Hp} {σ : L2.St} {ρ : Store} {i : Nat} {a : Addr} {x : Sl} (h1 : σ[i]? = some (some (.ref a))) (h2 : ρ[i]? = some x) (h3 : x.own = true) : OwnAt H σ ρ i a := ⟨a, x, h1, h2, by
  cases x <;> first | rfl | exact .inl rfl | exact absurd (show false = true from h3) (by decide)⟩

structure SR (K : PySem.W.Frag) (τ : LTab) (F : Fr) (H : Hp) (M : Addr → Prop) (σ : L2.St) (ρ : Store) : Prop where
  io : ∀ a, F.io a → F.M0 a
  sub : ∀ a, F.M0 a → M a
  dom : ∀ a, M a → H a ≠ none
  keep : Step F.H0 F.M1 H M
  rest : ∀ a, F.M0 a → ¬ F.io a → H a = F.H0 a
  len : ρ.length = σ.length
  sl : ∀ i : Nat, SlR K F H M (σ[i]?) (ρ[i]?)
  apart : ∀ (i j : Nat) (a : Addr), OwnAt H σ ρ i a → OwnAt H σ ρ j a → i = j
  tab : TabM τ H M

section
variable {K : PySem.W.Frag} {τ : LTab} {F : Fr} {H H' : Hp} {M M' : Addr → Prop} {σ : L2.St} {ρ : Store} {a : Addr} {d : D}
theorem OwnR.to (h : OwnR K H M a d) (st : Step H M H' M') (e : H' a = H a) : OwnR K H' M' a d := by
  cases h with
  | lst h1 h2 => exact .lst (e.trans h1) (h2.to st)
theorem DicR.to {a : Addr} {d : List (D × D)} {t : Bool} (h : DicR K H M a d t) (st : Step H M H' M') (e : H' a = H a) : DicR K H' M' a d t := by
  cases h with
  | k h1 h2 h3 => exact .k (e.trans h1) h2 (h3.to st)
  | t h1 h2 h3 => exact .t (e.trans h1) h2 (h3.to st)
theorem PrsR.to {ts : List V} {xs : List D} {bs : List Addr} (h : PrsR K H M ts xs bs) (st : Step H M H' M') : PrsR K H' M' ts xs bs := by
  induction h with
  | nil => exact .nil
  | cons h1 h2 _ ih => exact .cons (st _ _ ⟨h1, id, fun z => z.elim⟩).1 (h2.to st) ih
theorem OutR.to {bs : List Addr} {sh : Shp} (h : OutR K H M a bs sh) (st : Step H M H' M') (e : H' a = H a) : OutR K H' M' a bs sh := by
  cases h with
  | rows h => exact .rows (e.trans h)
  | dK h1 h2 h3 => exact .dK (e.trans h1) h2 h3
  | dT h1 h2 h3 => exact .dT (e.trans h1) h2 h3
  | prs h1 h2 => exact .prs (e.trans h1) (h2.to st)
theorem RowsR.to {M0 : Addr → Prop} {bs : List Addr} {rows : List (List D)} (h : RowsR K H M M0 bs rows) (st : Step H M H' M') (e : ∀ b ∈ bs, M b → H' b = H b ∧ M' b) : RowsR K H' M' M0 bs rows := by
  induction h with
  | nil => exact .nil
  | cons h1 h2 h3 h4 _ ih =>
    obtain ⟨e1, e2⟩ := e _ List.mem_cons_self h1
    exact .cons e2 h2 (e1.trans h3) (h4.to st) (ih fun b hb => e b (List.mem_cons_of_mem _ hb))
theorem RowsR.mem {M0 : Addr → Prop} {bs : List Addr} {rows : List (List D)} (h : RowsR K H M M0 bs rows) : ∀ b ∈ bs, M b ∧ ¬ M0 b ∧ ∃ vs, H b = some (.lst vs) := by
  induction h with
  | nil => intro b hb; exact absurd hb List.not_mem_nil
  | cons h1 h2 h3 h4 _ ih =>
    intro b hb
    rcases List.mem_cons.mp hb with e | hb
    · subst e; exact ⟨h1, h2, _, h3⟩
    · exact ih b hb
theorem RowsR.m0 {M0 M1 : Addr → Prop} {bs : List Addr} {rows : List (List D)} (h : RowsR K H M M0 bs rows) (e : ∀ b ∈ bs, ¬ M0 b → ¬ M1 b) : RowsR K H M M1 bs rows := by
  induction h with
  | nil => exact .nil
  | cons h1 h2 h3 h4 _ ih => exact .cons h1 (e _ List.mem_cons_self h2) h3 h4 (ih fun b hb => e b (List.mem_cons_of_mem _ hb))
theorem kid_refs {bs : List Addr} (h : ∀ b ∈ bs, ∃ vs, H b = some (.lst vs)) : (bs.map V.ref).filterMap (kid1 H) = bs := by
  induction bs with
  | nil => rfl
  | cons b bs ih =>
    obtain ⟨vs, e⟩ := h b List.mem_cons_self
    rw [List.map_cons, List.filterMap_cons_some (b := b) (by show (match H b with | some (.tup [_, .ref c]) => some c | _ => some b) = some b; rw [e]), ih fun b hb => h b (List.mem_cons_of_mem _ hb)]
theorem kid_prs {ts : List V} {xs : List D} {bs : List Addr} (h : PrsR K H M ts xs bs) : ts.filterMap (kid1 H) = bs := by
  induction h with
  | nil => rfl
  | @cons t b v x ts xs bs h1 _ _ ih => rw [List.filterMap_cons_some (b := b) (by show (match H t with | some (.tup [_, .ref c]) => some c | _ => some t) = some b; rw [h1]), ih]
section
variable {M0 M1 : Addr → Prop} {sh : Shp} {rows : List (List D)} {bs : List Addr}
theorem NeR.kids (h : NeR K M0 H M a sh rows bs) : MP.kids H a = bs := by
  have hl : ∀ b ∈ bs, ∃ vs, H b = some (.lst vs) := fun b hb => (h.rows.mem b hb).2.2
  unfold MP.kids
  cases h.out with
  | rows e => rw [e]; exact kid_refs hl
  | @dK kv _ e _ e3 => rw [e]; show (kv.map (·.2)).filterMap (kid1 H) = bs; rw [e3]; exact kid_refs hl
  | @dT kv _ e _ e3 => rw [e]; show (kv.map (·.2)).filterMap (kid1 H) = bs; rw [e3]; exact kid_refs hl
  | prs e q => rw [e]; exact kid_prs q
theorem NeR.mem (h : NeR K M0 H M a sh rows bs) : ∀ b, b = a ∨ b ∈ bs → M b ∧ ¬ M0 b := fun b q => q.elim (fun q => by rw [q]; exact ⟨h.m, h.n⟩) fun q => ⟨(h.rows.mem b q).1, (h.rows.mem b q).2.1⟩
theorem NeR.to (h : NeR K M0 H M a sh rows bs) (st : Step H M H' M') (e : ∀ b, b = a ∨ b ∈ bs → H' b = H b ∧ M' b) : NeR K M0 H' M' a sh rows bs :=
  ⟨(e a (.inl rfl)).2, h.n, h.out.to st (e a (.inl rfl)).1, h.rows.to st fun b hb _ => e b (.inr hb), h.nd⟩
theorem NeR.m0 (h : NeR K M0 H M a sh rows bs) (e : ∀ b, b = a ∨ b ∈ bs → ¬ M0 b → ¬ M1 b) : NeR K M1 H M a sh rows bs := ⟨h.m, e a (.inl rfl) h.n, h.out, h.rows.m0 fun b hb => e b (.inr hb), h.nd⟩
theorem NeR.owns (h : NeR K M0 H M a sh rows bs) {b : Addr} : (Sl.ne sh rows).owns H a b ↔ b = a ∨ b ∈ bs := by
  show b = a ∨ b ∈ MP.kids H a ↔ _
  rw [h.kids]
end
/-- a slot, the heap changed elsewhere -/
theorem SlR.same {x : Option (Option V)} {y : Option Sl} (h : SlR K F H M x y) (st : Step H M H' M') (o : ∀ a b s, x = some (some (.ref b)) → y = some s → s.owns H b a → H' a = H a ∧ (M' a ∨ F.M0 a)) (hm : ∀ a, F.M0 a → M' a) :
    SlR K F H' M' x y ∧ ∀ a b s, x = some (some (.ref b)) → y = some s → s.owns H' b a → s.owns H b a := by
  have ow : ∀ {a b : Addr} {s : Sl}, (∀ sh rows, s ≠ .ne sh rows) → s.owns H' b a → s.owns H b a := fun {a b s} n q => by
    cases s <;> first | exact q | exact absurd rfl (n _ _)
  cases h with
  | nil => exact ⟨.nil, fun _ _ _ _ e => nomatch e⟩
  | no => exact ⟨.no, fun _ _ s _ e => by cases e; exact ow fun _ _ z => nomatch z⟩
  | va h => exact ⟨.va (h.to st), fun _ _ s _ e => by cases e; exact ow fun _ _ z => nomatch z⟩
  | sc h => exact ⟨.sc (h.to st), fun _ _ s _ e => by cases e; exact ow fun _ _ z => nomatch z⟩
  | fn h => exact ⟨.fn h, fun _ _ s _ e => by cases e; exact ow fun _ _ z => nomatch z⟩
  | @ow a d h1 h2 h3 =>
    obtain ⟨e, m⟩ := o a a _ rfl rfl rfl
    exact ⟨.ow (m.resolve_right h2) h2 (h3.to st e), fun _ _ s _ e => by cases e; exact ow fun _ _ z => nomatch z⟩
  | @bo a d h1 h2 h3 =>
    obtain ⟨e, m⟩ := o a a _ rfl rfl rfl
    exact ⟨.bo h1 h2 (h3.to st e), fun _ _ s _ e => by cases e; exact ow fun _ _ z => nomatch z⟩
  | @dc a d t h1 h2 h3 =>
    obtain ⟨e, m⟩ := o a a _ rfl rfl rfl
    exact ⟨.dc (m.resolve_right h2) h2 (h3.to st e), fun _ _ s _ e => by cases e; exact ow fun _ _ z => nomatch z⟩
  | @ne a sh rows bs h =>
    have h' : NeR K F.M0 H' M' a sh rows bs := h.to st fun b hb => by
      obtain ⟨e, m⟩ := o b a _ rfl rfl (h.owns.mpr hb)
      exact ⟨e, m.resolve_right (h.mem b hb).2⟩
    refine ⟨.ne h', fun c b s e1 e2 q => ?_⟩
    cases e1
    cases e2
    exact h.owns.mpr (h'.owns.mp q)
theorem SlR.new {x : Option (Option V)} {y : Option Sl} (h : SlR K F H M x y) (dom : ∀ a, M a → H a ≠ none) (sub : ∀ a, F.M0 a → M a) (n : New H H') : SlR K F H' M x y := by
  have at_ : ∀ a, M a → H' a = H a := fun a m => by
    cases e : H a with
    | none => exact absurd e (dom a m)
    | some o => exact n a o e
  cases h with
  | nil => exact .nil
  | no => exact .no
  | va h => exact .va (h.to n.step)
  | sc h => exact .sc (h.to n.step)
  | fn h => exact .fn h
  | ow h1 h2 h3 => exact .ow h1 h2 (h3.to n.step (at_ _ h1))
  | dc h1 h2 h3 => exact .dc h1 h2 (h3.to n.step (at_ _ h1))
  | bo h1 h2 h3 => exact .bo h1 h2 (h3.to n.step (at_ _ (sub _ h1)))
  | ne h => exact .ne (h.to n.step fun b hb => ⟨at_ b (h.mem b hb).1, (h.mem b hb).1⟩)
/-- what a slot owns is of M -/
theorem SR.ownM (S : SR K τ F H M σ ρ) {i : Nat} {a : Addr} (h : OwnAt H σ ρ i a) : M a := by
  obtain ⟨b, x, h1, h2, h3⟩ := h
  have s := S.sl i
  rw [h1, h2] at s
  cases s with
  | ow q _ _ => have e : a = b := h3; rw [e]; exact q
  | bo q _ _ => have e : a = b := h3; rw [e]; exact S.sub _ q
  | dc q _ _ => have e : a = b := h3; rw [e]; exact q
  | ne h => exact (h.mem a (h.owns.mp h3)).1
  | _ => exact h3.elim
/-- .. and not of the frame, or lent -/
theorem SR.ownF (S : SR K τ F H M σ ρ) {i : Nat} {a : Addr} (h : OwnAt H σ ρ i a) : F.M0 a → F.io a := by
  obtain ⟨b, x, h1, h2, h3⟩ := h
  have s := S.sl i
  rw [h1, h2] at s
  cases s with
  | ow _ q _ => have e : a = b := h3; rw [e]; exact fun z => absurd z q
  | bo _ q _ => have e : a = b := h3; rw [e]; exact fun _ => q
  | dc _ q _ => have e : a = b := h3; rw [e]; exact fun z => absurd z q
  | ne h => exact fun z => absurd z (h.mem a (h.owns.mp h3)).2
  | _ => exact h3.elim
/-- the slots, the heap changed elsewhere -/
theorem SR.slSame (S : SR K τ F H M σ ρ) (st : Step H M H' M') (hm : ∀ a, F.M0 a → M' a) (i : Nat) (o : ∀ a, OwnAt H σ ρ i a → H' a = H a ∧ (M' a ∨ F.M0 a)) :
    SlR K F H' M' (σ[i]?) (ρ[i]?) ∧ ∀ a, OwnAt H' σ ρ i a → OwnAt H σ ρ i a := by
  obtain ⟨h1, h2⟩ := (S.sl i).same (M' := M') st (fun a b s e1 e2 q => o a ⟨b, s, e1, e2, q⟩) hm
  exact ⟨h1, fun a ⟨b, s, e1, e2, q⟩ => ⟨b, s, e1, e2, h2 a b s e1 e2 q⟩⟩
theorem SR.ownNew (S : SR K τ F H M σ ρ) (n : New H H') {i : Nat} {a : Addr} (h : OwnAt H' σ ρ i a) : OwnAt H σ ρ i a := by
  have at_ : ∀ a, M a → H' a = H a := fun a m => by
    cases e : H a with
    | none => exact absurd e (S.dom a m)
    | some o => exact n a o e
  exact (S.slSame n.step S.sub i fun b q => ⟨at_ b (S.ownM q), .inl (S.ownM q)⟩).2 a h
theorem SR.new (S : SR K τ F H M σ ρ) (n : New H H') : SR K τ F H' M σ ρ := by
  have at_ : ∀ a, M a → H' a = H a := fun a m => by
    cases e : H a with
    | none => exact absurd e (S.dom a m)
    | some o => exact n a o e
  exact ⟨S.io, S.sub, fun a m => by rw [at_ a m]; exact S.dom a m, S.keep.trans n.step, fun a h1 h2 => (at_ a (S.sub a h1)).trans (S.rest a h1 h2), S.len, fun i => (S.sl i).new S.dom S.sub n, fun i j a h1 h2 => S.apart i j a (S.ownNew n h1) (S.ownNew n h2), S.tab.new S.dom n⟩
theorem OwnAt.set1 {i j : Nat} {x : Sl} {a : Addr} (h : OwnAt H σ (ρ.set i x) j a) : (j ≠ i ∧ OwnAt H σ ρ j a) ∨ (j = i ∧ ∃ b, σ[i]? = some (some (.ref b)) ∧ x.owns H b a) := by
  obtain ⟨b, y, h1, h2, h3⟩ := h
  by_cases hj : j = i
  · subst hj
    by_cases hl : j < ρ.length
    · rw [List.getElem?_set_self hl] at h2
      cases h2
      exact .inr ⟨rfl, b, h1, h3⟩
    · rw [List.getElem?_eq_none (by rw [List.length_set]; omega)] at h2
      cases h2
  · rw [List.getElem?_set_ne (Ne.symm hj)] at h2
    exact .inl ⟨hj, b, y, h1, h2, h3⟩
theorem OwnAt.set2 {i j : Nat} {x : Sl} {v : Option V} {a : Addr} (h : OwnAt H (σ.set i v) (ρ.set i x) j a) : (j ≠ i ∧ OwnAt H σ ρ j a) ∨ (j = i ∧ ∃ b, v = some (.ref b) ∧ x.owns H b a) := by
  rcases h.set1 with ⟨hj, b, y, h1, h2, h3⟩ | ⟨hj, b, h1, h2⟩
  · rw [List.getElem?_set_ne (Ne.symm hj)] at h1
    exact .inl ⟨hj, b, y, h1, h2, h3⟩
  · refine .inr ⟨hj, b, ?_, h2⟩
    by_cases hl : i < σ.length
    · rw [List.getElem?_set_self hl] at h1
      exact Option.some.inj h1
    · rw [List.getElem?_eq_none (by rw [List.length_set]; omega)] at h1
      cases h1
end

/-! what a tree is known by: frozen, or an owned list read as it stands -/
def RepM (K : PySem.W.Frag) (H : Hp) (M : Addr → Prop) (v : V) (d : D) : Prop := Rep K H M v d ∨ ∃ a, v = .ref a ∧ OwnR K H M a d

abbrev Opd := Sum Nat D
def Sl.con : Sl → Option D
  | .no => none
  | .va d => some d
  | .ow d => some d
  | .bo d => some d
  | .sc _ => none
  | .dc _ _ => none
  | .fn _ => none
  | .ne _ _ => none
def res (ρ : Store) : Opd → Option D
  | .inl i => (ρ[i]?).bind Sl.con
  | .inr d => some d
def OpdR (K : PySem.W.Frag) (H : Hp) (M : Addr → Prop) (σ : L2.St) (v : V) : Opd → Prop
  | .inl i => σ[i]? = some (some v)
  | .inr d => Rep K H M v d
section
variable {K : PySem.W.Frag} {τ : LTab} {F : Fr} {H H' : Hp} {M M' : Addr → Prop} {σ : L2.St} {ρ : Store} {v : V} {o : Opd} {d : D}
theorem OpdR.to (h : OpdR K H M σ v o) (st : Step H M H' M') : OpdR K H' M' σ v o := by
  cases o with
  | inl i => exact h
  | inr d => exact Rep.to h st
theorem SR.res (S : SR K τ F H M σ ρ) (h : OpdR K H M σ v o) (e : MP.res ρ o = some d) : RepM K H M v d := by
  cases o with
  | inr d' =>
    cases e
    exact .inl h
  | inl i =>
    have hs := S.sl i
    have h' : σ[i]? = some (some v) := h
    rw [h'] at hs
    have e : (ρ[i]?).bind Sl.con = some d := e
    cases q : ρ[i]? with
    | none => rw [q] at e; cases e
    | some x =>
      rw [q] at e hs
      cases hs with
      | no => cases e
      | sc _ => cases e
      | dc _ _ _ => cases e
      | fn _ => cases e
      | ne _ => cases e
      | va r => cases e; exact .inl r
      | ow _ _ r => cases e; exact .inr ⟨_, rfl, r⟩
      | bo _ _ r => cases e; exact .inr ⟨_, rfl, r⟩
end
def ofO {α : Type} : Option α → R α
  | some a => .ok a
  | none => .bad
@[simp] theorem ofO_some {α : Type} (a : α) : ofO (some a) = .ok a := rfl
@[simp] theorem ofO_none {α : Type} : ofO (none : Option α) = .bad := rfl
end MP

namespace MP
open PySem PySem.Spec PyProof.Rows L2

abbrev Ex := Store → R (D × Store)
abbrev Eo := Store → R (Opd × Store)
abbrev Ea := Store → R (List Opd × Store)
abbrev Et := Store → R (Bool × Store)
abbrev Es := Store → FR
abbrev WiT := Fr → Str → D → Prop

/-! results as readings -/
def tOf (K : PySem.W.Frag) (τ : LTab) (Wi : WiT) (f : Ex) : TE := fun σ H Q => ∃ F M ρ, SR K τ F H M σ ρ ∧ match f ρ with
  | .bad => False
  | .exc c p => Wi F c p
  | .ok (d, ρ') => ∀ v H' M', Rep K H' M' v d → SR K τ F H' M' σ ρ' → Step H M H' M' → Q v H'
def tOfO (K : PySem.W.Frag) (τ : LTab) (Wi : WiT) (f : Eo) : TE := fun σ H Q => ∃ F M ρ, SR K τ F H M σ ρ ∧ match f ρ with
  | .bad => False
  | .exc c p => Wi F c p
  | .ok (o, ρ') => ∀ v H' M', OpdR K H' M' σ v o → SR K τ F H' M' σ ρ' → Step H M H' M' → Q v H'
inductive OpdL (K : PySem.W.Frag) (H : Hp) (M : Addr → Prop) (σ : L2.St) : List V → List Opd → Prop
  | nil : OpdL K H M σ [] []
  | cons {v : V} {vs : List V} {o : Opd} {os : List Opd} : OpdR K H M σ v o → OpdL K H M σ vs os → OpdL K H M σ (v :: vs) (o :: os)
theorem OpdL.to {K : PySem.W.Frag} {H H' : Hp} {M M' : Addr → Prop} {σ : L2.St} (st : Step H M H' M') : ∀ {vs : List V} {os : List Opd}, OpdL K H M σ vs os → OpdL K H' M' σ vs os
  | _, _, .nil => .nil
  | _, _, .cons h t => .cons (h.to st) (OpdL.to st t)
def tOfA (K : PySem.W.Frag) (τ : LTab) (Wi : WiT) (f : Ea) : TA := fun σ H Q => ∃ F M ρ, SR K τ F H M σ ρ ∧ match f ρ with
  | .bad => False
  | .exc c p => Wi F c p
  | .ok (os, ρ') => ∀ vs H' M', OpdL K H' M' σ vs os → SR K τ F H' M' σ ρ' → Step H M H' M' → Q vs H'
def tOfT (K : PySem.W.Frag) (τ : LTab) (Wi : WiT) (f : Et) : TT := fun σ H Q => ∃ F M ρ, SR K τ F H M σ ρ ∧ match f ρ with
  | .bad => False
  | .exc c p => Wi F c p
  | .ok (b, ρ') => ∀ H' M', SR K τ F H' M' σ ρ' → Step H M H' M' → Q b H'
def tOfS (K : PySem.W.Frag) (τ : LTab) (Wi : WiT) (f : Es) : TS := fun E σ H => ∃ F M ρ, SR K τ F H M σ ρ ∧ match f ρ with
  | .bad => False
  | .exc c p => Wi F c p
  | .next ρ' => ∀ σ' H' M', SR K τ F H' M' σ' ρ' → Step H M H' M' → E.nx σ' H'
  | .brk ρ' => ∀ σ' H' M', SR K τ F H' M' σ' ρ' → Step H M H' M' → E.bk σ' H'
  | .cnt ρ' => ∀ σ' H' M', SR K τ F H' M' σ' ρ' → Step H M H' M' → E.ct σ' H'
  | .ret d ρ' => ∀ v σ' H' M', Rep K H' M' v d → SR K τ F H' M' σ' ρ' → Step H M H' M' → E.rt v H'

section
variable {X : Cx} {e : Expr} {t t' : TE} {es : List Expr}
theorem pe_imp (h : PE X e t) (hh : ∀ σ H Q, t' σ H Q → t σ H Q) : PE X e t' := ⟨fun pins s σ H Q I q => h.run pins s σ H Q I (hh σ H Q q)⟩
theorem pt_imp {t t' : TT} (h : PT X e t) (hh : ∀ σ H Q, t' σ H Q → t σ H Q) : PT X e t' := ⟨fun pins s σ H Q I q => h.run pins s σ H Q I (hh σ H Q q)⟩
theorem pw_imp {t t' : TT} (h : PW X e t) (hh : ∀ σ H Q, t' σ H Q → t σ H Q) : PW X e t' := ⟨fun wh pins s σ H Q I q => h.run wh pins s σ H Q I (hh σ H Q q)⟩
theorem pa_imp {t t' : TA} (h : PA X es t) (hh : ∀ σ H Q, t' σ H Q → t σ H Q) : PA X es t' := ⟨fun pos pins s σ H Q I q => h.run pos pins s σ H Q I (hh σ H Q q)⟩
theorem ps_imp {st : Stmt} {t t' : TS} (h : PS X st t) (hh : ∀ D σ H, t' D σ H → t D σ H) : PS X st t' := ⟨fun pins s σ H D I q => h.run pins s σ H D I (hh D σ H q)⟩
theorem pss_imp {st : List Stmt} {t t' : TS} (h : PSs X st t) (hh : ∀ D σ H, t' D σ H → t D σ H) : PSs X st t' := ⟨fun pins s σ H D I q => h.run pins s σ H D I (hh D σ H q)⟩
end

section
variable {K : PySem.W.Frag} {τ : LTab} {Wi : WiT} {F : Fr} {H H' : Hp} {M M' : Addr → Prop} {σ : L2.St} {ρ : Store}
/-! ### names -/
def rd (i : Nat) : Ex := fun ρ => match ρ[i]? with
  | some (.va d) => .ok (d, ρ)
  | some (.ow (.lst ds)) => .ok (.lst ds, ρ.set i (.va (.lst ds)))
  | _ => .bad
def pk (i : Nat) : Eo := fun ρ => match (ρ[i]?).bind Sl.con with
  | some _ => .ok (.inl i, ρ)
  | none => .bad
def vo (f : Ex) : Eo := fun ρ => (f ρ).bind fun x => .ok (.inr x.1, x.2)

theorem SR.freeze {i : Nat} {a : Addr} {vs : List V} {ds : List D} (S : SR K τ F H M σ ρ) (hσ : σ[i]? = some (some (.ref a))) (hρ : ρ[i]? = some (.ow (.lst ds))) (hm : M a) (hn : ¬ F.M0 a) (ha : H a = some (.lst vs)) (r : RepL K H M vs ds) :
    SR K τ F H (fun b => M b ∧ b ≠ a) σ (ρ.set i (.va (.lst ds))) ∧ Rep K H (fun b => M b ∧ b ≠ a) (.ref a) (.lst ds) ∧ Step H M H (fun b => M b ∧ b ≠ a) := by
  have st : Step H M H (fun b => M b ∧ b ≠ a) := Step.less fun b q => q.1
  have rp : Rep K H (fun b => M b ∧ b ≠ a) (.ref a) (.lst ds) := .lst ⟨ha, id, fun _ q => q.2 rfl⟩ (r.to st)
  have hi : i < ρ.length := (List.getElem?_eq_some_iff.mp hρ).1
  refine ⟨⟨S.io, fun b q => ⟨S.sub b q, fun z => hn (z ▸ q)⟩, fun b q => S.dom b q.1, S.keep.trans st, S.rest, by rw [List.length_set]; exact S.len, fun j => ?_, fun j k b hj hk => ?_, S.tab.less fun b q => q.1⟩, rp, st⟩
  · by_cases hj : j = i
    · subst hj
      rw [List.getElem?_set_self hi, hσ]
      exact .va rp
    · rw [List.getElem?_set_ne (Ne.symm hj)]
      exact (S.slSame (M' := fun b => M b ∧ b ≠ a) st (fun b q => ⟨S.sub b q, fun z => hn (z ▸ q)⟩) j fun b q => ⟨rfl, .inl ⟨S.ownM q, fun z => hj (S.apart j i a (z ▸ q) (.top hσ hρ rfl))⟩⟩).1
  · have back : ∀ {j : Nat} {b : Addr}, OwnAt H σ (ρ.set i (.va (.lst ds))) j b → OwnAt H σ ρ j b := fun h => by
      rcases h.set1 with ⟨_, h⟩ | ⟨_, _, _, h⟩
      · exact h
      · exact h.elim
    exact S.apart j k b (back hj) (back hk)

theorem t_rd {i : Nat} {Q : VK} (h : tOf K τ Wi (rd i) σ H Q) : tVar i σ H Q := by
  obtain ⟨F, M, ρ, S, h⟩ := h
  have s := S.sl i
  unfold rd at h
  cases q : ρ[i]? with
  | none => rw [q] at h; exact h.elim
  | some x =>
    rw [q] at h s
    cases x with
    | no => exact h.elim
    | va d =>
      generalize hx : σ[i]? = sx at s
      cases s with
      | va r => exact ⟨_, hx, h _ H M r S Step.refl⟩
    | ow d =>
      generalize hx : σ[i]? = sx at s
      cases s with
      | ow h1 h2 h3 =>
        cases h3 with
        | lst ha r =>
          obtain ⟨S', rp, st⟩ := S.freeze hx q h1 h2 ha r
          exact ⟨_, hx, h _ H _ rp S' st⟩
    | bo d => exact h.elim
    | sc d => exact h.elim
    | dc d _ => exact h.elim
    | fn d => exact h.elim
    | ne d _ => exact h.elim
theorem t_pk {i : Nat} {Q : VK} (h : tOfO K τ Wi (pk i) σ H Q) : tVar i σ H Q := by
  obtain ⟨F, M, ρ, S, h⟩ := h
  have s := S.sl i
  unfold pk at h
  cases q : ρ[i]? with
  | none => rw [q] at h; exact h.elim
  | some x =>
    rw [q] at h s
    generalize hx : σ[i]? = sx at s
    cases s with
    | no => exact h.elim
    | va r => exact ⟨_, hx, h _ H M hx S Step.refl⟩
    | sc _ => exact h.elim
    | fn _ => exact h.elim
    | ne _ => exact h.elim
    | ow h1 h2 h3 => exact ⟨_, hx, h _ H M hx S Step.refl⟩
    | dc _ _ _ => exact h.elim
    | bo h1 h2 h3 => exact ⟨_, hx, h _ H M hx S Step.refl⟩
theorem t_vo {f : Ex} {Q : VK} (h : tOfO K τ Wi (vo f) σ H Q) : tOf K τ Wi f σ H Q := by
  obtain ⟨F, M, ρ, S, h⟩ := h
  refine ⟨F, M, ρ, S, ?_⟩
  unfold vo at h
  cases q : f ρ with
  | bad => rw [q] at h; exact h
  | exc c p => rw [q] at h; exact h
  | ok x => rw [q] at h; exact fun v H' M' r S' st => h v H' M' r S' st

/-! ### constants -/
def cst (d : D) : Ex := fun ρ => .ok (d, ρ)
theorem t_cst {d : D} {v : V} {Q : VK} (hd : ∀ H M, Rep K H M v d) (h : tOf K τ Wi (cst d) σ H Q) : tC v σ H Q := by
  obtain ⟨F, M, ρ, S, h⟩ := h
  exact h v H M (hd H M) S Step.refl

/-! ### arguments -/
def aNil : Ea := fun ρ => .ok ([], ρ)
def aCons (f : Eo) (g : Ea) : Ea := fun ρ => (f ρ).bind fun x => (g x.2).bind fun y => .ok (x.1 :: y.1, y.2)
theorem t_aNil {Q : List V → Hp → Prop} (h : tOfA K τ Wi aNil σ H Q) : tNil σ H Q := by
  obtain ⟨F, M, ρ, S, h⟩ := h
  exact h [] H M .nil S Step.refl
theorem t_aCons {f : Eo} {g : Ea} {Q : List V → Hp → Prop} (h : tOfA K τ Wi (aCons f g) σ H Q) : tCons (tOfO K τ Wi f) (tOfA K τ Wi g) σ H Q := by
  obtain ⟨F, M, ρ, S, h⟩ := h
  refine ⟨F, M, ρ, S, ?_⟩
  unfold aCons at h
  cases q : f ρ with
  | bad => rw [q] at h; exact h
  | exc c p => rw [q] at h; exact h
  | ok x =>
    rw [q] at h
    refine fun v H1 M1 r S1 st1 => ⟨F, M1, x.2, S1, ?_⟩
    have h : (match (g x.2).bind fun y => R.ok (x.1 :: y.1, y.2) with
      | .bad => False
      | .exc c p => Wi F c p
      | .ok (os, ρ') => ∀ vs H' M', OpdL K H' M' σ vs os → SR K τ F H' M' σ ρ' → Step H M H' M' → Q vs H') := h
    cases q2 : g x.2 with
    | bad => rw [q2] at h; exact h
    | exc c p => rw [q2] at h; exact h
    | ok y =>
      rw [q2] at h
      exact fun vs H2 M2 r2 S2 st2 => h _ H2 M2 (.cons (r.to st2) r2) S2 (st1.trans st2)

/-- the operands' trees, as they stand now -/
def resL (ρ : Store) : List Opd → Option (List D)
  | [] => some []
  | o :: os => (res ρ o).bind fun d => (resL ρ os).bind fun ds => some (d :: ds)
inductive RepML (K : PySem.W.Frag) (H : Hp) (M : Addr → Prop) : List V → List D → Prop
  | nil : RepML K H M [] []
  | cons {v : V} {vs : List V} {d : D} {ds : List D} : RepM K H M v d → RepML K H M vs ds → RepML K H M (v :: vs) (d :: ds)
theorem SR.resL (S : SR K τ F H M σ ρ) : ∀ {vs : List V} {os : List Opd} {ds : List D}, OpdL K H M σ vs os → MP.resL ρ os = some ds → RepML K H M vs ds
  | _, _, ds, .nil, e => by cases e; exact .nil
  | _, _, ds, .cons (o := o) (os := os) h t, e => by
    have e : (MP.res ρ o).bind (fun d => (MP.resL ρ os).bind fun ds => some (d :: ds)) = some ds := e
    cases q1 : MP.res ρ o with
    | none => rw [q1] at e; cases e
    | some d =>
      rw [q1, Option.bind_some] at e
      cases q2 : MP.resL ρ os with
      | none => rw [q2] at e; cases e
      | some ds' =>
        rw [q2] at e
        cases e
        exact .cons (S.res h q1) (SR.resL S t q2)

/-! ### operations on operands: the trees' function g, the reading r -/
def op1 (g : D → Option D) (f1 : Eo) : Ex := fun ρ => (f1 ρ).bind fun x => (ofO ((res x.2 x.1).bind g)).bind fun d => .ok (d, x.2)
def op2 (g : D → D → Option D) (f1 f2 : Eo) : Ex := fun ρ => (f1 ρ).bind fun x => (f2 x.2).bind fun y => (ofO ((res y.2 x.1).bind fun a => (res y.2 y.1).bind fun b => g a b)).bind fun d => .ok (d, y.2)
def opN (g : List D → Option D) (fs : Ea) : Ex := fun ρ => (fs ρ).bind fun x => (ofO ((resL x.2 x.1).bind g)).bind fun d => .ok (d, x.2)
def G1 (K : PySem.W.Frag) (r : V → Hp → VK → Prop) (g : D → Option D) : Prop := ∀ (H : Hp) (M : Addr → Prop) (x : V) (a d : D) (Q : VK), (∀ a, M a → H a ≠ none) → RepM K H M x a → g a = some d →
  (∀ z H', New H H' → Rep K H' M z d → Q z H') → r x H Q
def G2 (K : PySem.W.Frag) (r : R2) (g : D → D → Option D) : Prop := ∀ (H : Hp) (M : Addr → Prop) (x y : V) (a b d : D) (Q : VK), (∀ a, M a → H a ≠ none) → RepM K H M x a → RepM K H M y b → g a b = some d →
  (∀ z H', New H H' → Rep K H' M z d → Q z H') → r x y H Q
def GN (K : PySem.W.Frag) (r : List V → Hp → VK → Prop) (g : List D → Option D) : Prop := ∀ (H : Hp) (M : Addr → Prop) (vs : List V) (ds : List D) (d : D) (Q : VK), (∀ a, M a → H a ≠ none) → RepML K H M vs ds → g ds = some d →
  (∀ z H', New H H' → Rep K H' M z d → Q z H') → r vs H Q
theorem t_op1 {g : D → Option D} {r : V → Hp → VK → Prop} {f1 : Eo} {Q : VK} (hg : G1 K r g) (h : tOf K τ Wi (op1 g f1) σ H Q) : tUn r (tOfO K τ Wi f1) σ H Q := by
  obtain ⟨F, M, ρ, S, h⟩ := h
  refine ⟨F, M, ρ, S, ?_⟩
  unfold op1 at h
  cases q : f1 ρ with
  | bad => rw [q] at h; exact h
  | exc c p => rw [q] at h; exact h
  | ok x =>
    rw [q, R.bind_ok] at h
    refine fun v H1 M1 r1 S1 st1 => ?_
    cases q3 : MP.res x.2 x.1 with
    | none => rw [q3] at h; exact h.elim
    | some a =>
      rw [q3, Option.bind_some] at h
      cases q5 : g a with
      | none => rw [q5] at h; exact h.elim
      | some d =>
        rw [q5] at h
        exact hg H1 M1 v a d Q S1.dom (S1.res r1 q3) q5 fun z H3 n rz => h z H3 M1 rz (S1.new n) (st1.trans n.step)
theorem t_op2 {g : D → D → Option D} {r : R2} {f1 f2 : Eo} {Q : VK} (hg : G2 K r g) (h : tOf K τ Wi (op2 g f1 f2) σ H Q) : tOp r (tOfO K τ Wi f1) (tOfO K τ Wi f2) σ H Q := by
  obtain ⟨F, M, ρ, S, h⟩ := h
  refine ⟨F, M, ρ, S, ?_⟩
  unfold op2 at h
  cases q : f1 ρ with
  | bad => rw [q] at h; exact h
  | exc c p => rw [q] at h; exact h
  | ok x =>
    rw [q, R.bind_ok] at h
    refine fun v H1 M1 r1 S1 st1 => ⟨F, M1, x.2, S1, ?_⟩
    cases q2 : f2 x.2 with
    | bad => rw [q2] at h; exact h
    | exc c p => rw [q2] at h; exact h
    | ok y =>
      rw [q2, R.bind_ok] at h
      refine fun u H2 M2 r2 S2 st2 => ?_
      cases q3 : MP.res y.2 x.1 with
      | none => rw [q3] at h; exact h.elim
      | some a =>
        rw [q3, Option.bind_some] at h
        cases q4 : MP.res y.2 y.1 with
        | none => rw [q4] at h; exact h.elim
        | some b =>
          rw [q4, Option.bind_some] at h
          cases q5 : g a b with
          | none => rw [q5] at h; exact h.elim
          | some d =>
            rw [q5] at h
            exact hg H2 M2 v u a b d Q S2.dom (S2.res (r1.to st2) q3) (S2.res r2 q4) q5 fun z H3 n rz => h z H3 M2 rz (S2.new n) ((st1.trans st2).trans n.step)
theorem t_opN {g : List D → Option D} {r : List V → Hp → VK → Prop} {fs : Ea} {Q : VK} (hg : GN K r g) (h : tOf K τ Wi (opN g fs) σ H Q) : tOfA K τ Wi fs σ H fun vs H1 => r vs H1 Q := by
  obtain ⟨F, M, ρ, S, h⟩ := h
  refine ⟨F, M, ρ, S, ?_⟩
  unfold opN at h
  cases q : fs ρ with
  | bad => rw [q] at h; exact h
  | exc c p => rw [q] at h; exact h
  | ok x =>
    rw [q, R.bind_ok] at h
    refine fun v H1 M1 r1 S1 st1 => ?_
    cases q3 : MP.resL x.2 x.1 with
    | none => rw [q3] at h; exact h.elim
    | some a =>
      rw [q3, Option.bind_some] at h
      cases q5 : g a with
      | none => rw [q5] at h; exact h.elim
      | some d =>
        rw [q5] at h
        exact hg H1 M1 v a d Q S1.dom (S1.resL r1 q3) q5 fun z H3 n rz => h z H3 M1 rz (S1.new n) (st1.trans n.step)

/-! ### displays -/
theorem RepML.reps : ∀ {vs : List V} {os : List Opd} {ds : List D}, OpdL K H M σ vs os → os = ds.map Sum.inr → RepL K H M vs ds
  | _, _, [], .nil, _ => .nil
  | _, _, d :: ds, .nil, e => by cases e
  | _, _, [], .cons _ _, e => by cases e
  | _, _, d :: ds, .cons (o := o) h t, e => by
    injection e with e1 e2
    subst e1
    exact .cons h (RepML.reps t e2)
def xNil : Ea := aNil
def xCons (f : Ex) (g : Ea) : Ea := aCons (vo f) g
def vals : List Opd → Option (List D)
  | [] => some []
  | .inr d :: os => (vals os).bind fun ds => some (d :: ds)
  | _ => none
theorem vals_eq : ∀ {os : List Opd} {ds : List D}, vals os = some ds → os = ds.map Sum.inr
  | [], _, e => by cases e; rfl
  | .inr d :: os, ds, e => by
    have e : (vals os).bind (fun ds => some (d :: ds)) = some ds := e
    cases q : vals os with
    | none => rw [q] at e; cases e
    | some ds' => rw [q] at e; cases e; rw [vals_eq q]; rfl
  | .inl i :: os, ds, e => by cases e
/-- a tuple's, a list's display -/
def dsp (w : List D → D) (fs : Ea) : Ex := fun ρ => (fs ρ).bind fun x => (ofO (vals x.1)).bind fun ds => if ds.length ≤ 1000 then .ok (w ds, x.2) else .bad
theorem t_tup {fs : Ea} {Q : VK} (h : tOf K τ Wi (dsp .tup fs) σ H Q) : tTup (tOfA K τ Wi fs) σ H Q := by
  obtain ⟨F, M, ρ, S, h⟩ := h
  refine ⟨F, M, ρ, S, ?_⟩
  unfold dsp at h
  cases q : fs ρ with
  | bad => rw [q] at h; exact h
  | exc c p => rw [q] at h; exact h
  | ok x =>
    rw [q, R.bind_ok] at h
    refine fun vs H1 M1 r1 S1 st1 => ?_
    cases q3 : vals x.1 with
    | none => rw [q3] at h; exact h.elim
    | some ds =>
      rw [q3, ofO_some, R.bind_ok] at h
      have rl := RepML.reps r1 (vals_eq q3)
      by_cases hl : ds.length ≤ 1000
      · rw [if_pos hl] at h
        refine ⟨by rw [rl.length, sizeLine_eq]; omega, fun p hp => ?_⟩
        have n : New H1 (upd H1 p (.tup vs)) := New.upd hp
        exact h _ _ M1 (.tup (.inl ⟨upd_same, id, False.elim⟩) (rl.to n.step)) (S1.new n) (st1.trans n.step)
      · rw [if_neg hl] at h; exact h.elim
theorem t_lst {fs : Ea} {Q : VK} (h : tOf K τ Wi (dsp .lst fs) σ H Q) : tLst (tOfA K τ Wi fs) σ H Q := by
  obtain ⟨F, M, ρ, S, h⟩ := h
  refine ⟨F, M, ρ, S, ?_⟩
  unfold dsp at h
  cases q : fs ρ with
  | bad => rw [q] at h; exact h
  | exc c p => rw [q] at h; exact h
  | ok x =>
    rw [q, R.bind_ok] at h
    refine fun vs H1 M1 r1 S1 st1 => ?_
    cases q3 : vals x.1 with
    | none => rw [q3] at h; exact h.elim
    | some ds =>
      rw [q3, ofO_some, R.bind_ok] at h
      have rl := RepML.reps r1 (vals_eq q3)
      by_cases hl : ds.length ≤ 1000
      · rw [if_pos hl] at h
        refine ⟨by rw [rl.length, sizeLine_eq]; omega, fun p hp => ?_⟩
        have n : New H1 (upd H1 p (.lst vs)) := New.upd hp
        exact h _ _ M1 (.lst ⟨upd_same, id, fun _ z => S1.dom p z hp⟩ (rl.to n.step)) (S1.new n) (st1.trans n.step)
      · rw [if_neg hl] at h; exact h.elim

/-! ### tests -/
/-- a value's truth -/
def truD : D → Option Bool
  | .non => some false
  | .bl b => some b
  | .int i => some (i != 0)
  | .tup xs => some (!xs.isEmpty)
  | .lst xs => some (!xs.isEmpty)
  | _ => none
theorem isEmpty_rep {vs : List V} {ds : List D} (h : RepL K H M vs ds) : vs.isEmpty = ds.isEmpty := by
  cases h <;> rfl
theorem SqT.ofFx {a : Addr} {vs : List V} (h : Fx H M a (.tup vs) ∨ KTup K a vs) : SqT K H a vs := h.elim (fun q => .inl (.inl q.1)) (fun q => .inr q.2)
theorem SqL.ofFx {a : Addr} {vs : List V} (h : Fx H M a (.lst vs)) : SqL K H a vs := .inl (.inl h.1)
theorem tru_ok {v : V} {d : D} {b : Bool} (h : RepM K H M v d) (e : truD d = some b) : TruV K v H b := by
  rcases h with h | ⟨a, rfl, h⟩
  · cases h with
    | non => cases e; exact rfl
    | bl b => cases e; exact rfl
    | int i => cases e; exact rfl
    | str x _ => cases e
    | tup h1 h2 => cases e; exact .inr (.inl ⟨_, SqT.ofFx h1, by rw [isEmpty_rep h2]⟩)
    | lst h1 h2 => cases e; exact .inl ⟨_, SqL.ofFx h1, by rw [isEmpty_rep h2]⟩
  · cases h with
    | lst h1 h2 => cases e; exact .inl ⟨_, SqL.of h1, by rw [isEmpty_rep h2]⟩
/-- an expression as a test, by its value's truth -/
def tst (f : Eo) : Et := fun ρ => (f ρ).bind fun x => (ofO ((res x.2 x.1).bind truD)).bind fun b => .ok (b, x.2)
theorem t_tst {f : Eo} {Q : Bool → Hp → Prop} (h : tOfT K τ Wi (tst f) σ H Q) : tOfO K τ Wi f σ H fun x H' => ∃ k, TruV K x H' k ∧ Q k H' := by
  obtain ⟨F, M, ρ, S, h⟩ := h
  refine ⟨F, M, ρ, S, ?_⟩
  unfold tst at h
  cases q : f ρ with
  | bad => rw [q] at h; exact h
  | exc c p => rw [q] at h; exact h
  | ok x =>
    rw [q, R.bind_ok] at h
    refine fun v H1 M1 r1 S1 st1 => ?_
    cases q3 : MP.res x.2 x.1 with
    | none => rw [q3] at h; exact h.elim
    | some a =>
      rw [q3, Option.bind_some] at h
      cases q5 : truD a with
      | none => rw [q5] at h; exact h.elim
      | some b =>
        rw [q5] at h
        exact ⟨b, tru_ok (S1.res r1 q3) q5, h H1 M1 S1 st1⟩
/-- an expression that gives a bool, as a test -/
def tbl (f : Ex) : Et := fun ρ => (f ρ).bind fun x => match x.1 with
  | .bl b => .ok (b, x.2)
  | _ => .bad
theorem t_tbl {f : Ex} {Q : Bool → Hp → Prop} (h : tOfT K τ Wi (tbl f) σ H Q) : tOf K τ Wi f σ H fun x H' => ∃ k, x = .bl k ∧ Q k H' := by
  obtain ⟨F, M, ρ, S, h⟩ := h
  refine ⟨F, M, ρ, S, ?_⟩
  unfold tbl at h
  cases q : f ρ with
  | bad => rw [q] at h; exact h
  | exc c p => rw [q] at h; exact h
  | ok x =>
    obtain ⟨d, ρ1⟩ := x
    rw [q, R.bind_ok] at h
    refine fun v H1 M1 r1 S1 st1 => ?_
    cases r1 with
    | bl b => exact ⟨b, rfl, h H1 M1 S1 st1⟩
    | _ => exact h.elim
def tAndE (f g : Et) : Et := fun ρ => (f ρ).bind fun x => if x.1 = true then g x.2 else .ok (false, x.2)
def tOrE (f g : Et) : Et := fun ρ => (f ρ).bind fun x => if x.1 = true then .ok (true, x.2) else g x.2
def tNotE (f : Et) : Et := fun ρ => (f ρ).bind fun x => .ok (!x.1, x.2)
theorem t_and {f g : Et} {Q : Bool → Hp → Prop} (h : tOfT K τ Wi (tAndE f g) σ H Q) : tAnd (tOfT K τ Wi f) (tOfT K τ Wi g) σ H Q := by
  obtain ⟨F, M, ρ, S, h⟩ := h
  refine ⟨F, M, ρ, S, ?_⟩
  unfold tAndE at h
  cases q : f ρ with
  | bad => rw [q] at h; exact h
  | exc c p => rw [q] at h; exact h
  | ok x =>
    obtain ⟨b, ρ1⟩ := x
    rw [q, R.bind_ok] at h
    refine fun H1 M1 S1 st1 => ?_
    cases b with
    | false => exact h H1 M1 S1 st1
    | true =>
      refine ⟨F, M1, ρ1, S1, ?_⟩
      have h : (match g ρ1 with
        | .bad => False
        | .exc c p => Wi F c p
        | .ok (b, ρ') => ∀ H' M', SR K τ F H' M' σ ρ' → Step H M H' M' → Q b H') := h
      cases q2 : g ρ1 with
      | bad => rw [q2] at h; exact h
      | exc c p => rw [q2] at h; exact h
      | ok y => rw [q2] at h; exact fun H2 M2 S2 st2 => h H2 M2 S2 (st1.trans st2)
theorem t_or {f g : Et} {Q : Bool → Hp → Prop} (h : tOfT K τ Wi (tOrE f g) σ H Q) : tOr (tOfT K τ Wi f) (tOfT K τ Wi g) σ H Q := by
  obtain ⟨F, M, ρ, S, h⟩ := h
  refine ⟨F, M, ρ, S, ?_⟩
  unfold tOrE at h
  cases q : f ρ with
  | bad => rw [q] at h; exact h
  | exc c p => rw [q] at h; exact h
  | ok x =>
    obtain ⟨b, ρ1⟩ := x
    rw [q, R.bind_ok] at h
    refine fun H1 M1 S1 st1 => ?_
    cases b with
    | true => exact h H1 M1 S1 st1
    | false =>
      refine ⟨F, M1, ρ1, S1, ?_⟩
      have h : (match g ρ1 with
        | .bad => False
        | .exc c p => Wi F c p
        | .ok (b, ρ') => ∀ H' M', SR K τ F H' M' σ ρ' → Step H M H' M' → Q b H') := h
      cases q2 : g ρ1 with
      | bad => rw [q2] at h; exact h
      | exc c p => rw [q2] at h; exact h
      | ok y => rw [q2] at h; exact fun H2 M2 S2 st2 => h H2 M2 S2 (st1.trans st2)
theorem t_not {f : Et} {Q : Bool → Hp → Prop} (h : tOfT K τ Wi (tNotE f) σ H Q) : tNot (tOfT K τ Wi f) σ H Q := by
  obtain ⟨F, M, ρ, S, h⟩ := h
  refine ⟨F, M, ρ, S, ?_⟩
  unfold tNotE at h
  cases q : f ρ with
  | bad => rw [q] at h; exact h
  | exc c p => rw [q] at h; exact h
  | ok x => rw [q] at h; exact h
/-- a if t else b -/
def eIf (t : Et) (a b : Ex) : Ex := fun ρ => (t ρ).bind fun x => if x.1 = true then a x.2 else b x.2
theorem t_if {t : Et} {a b : Ex} {Q : VK} (h : tOf K τ Wi (eIf t a b) σ H Q) : tIf (tOfT K τ Wi t) (tOf K τ Wi a) (tOf K τ Wi b) σ H Q := by
  obtain ⟨F, M, ρ, S, h⟩ := h
  refine ⟨F, M, ρ, S, ?_⟩
  unfold eIf at h
  cases q : t ρ with
  | bad => rw [q] at h; exact h
  | exc c p => rw [q] at h; exact h
  | ok x =>
    obtain ⟨k, ρ1⟩ := x
    rw [q, R.bind_ok] at h
    refine fun H1 M1 S1 st1 => ?_
    have go : ∀ g : Ex, (match g ρ1 with
        | .bad => False
        | .exc c p => Wi F c p
        | .ok (d, ρ') => ∀ v H' M', Rep K H' M' v d → SR K τ F H' M' σ ρ' → Step H M H' M' → Q v H') → tOf K τ Wi g σ H1 Q := fun g h => by
      refine ⟨F, M1, ρ1, S1, ?_⟩
      cases q2 : g ρ1 with
      | bad => rw [q2] at h; exact h
      | exc c p => rw [q2] at h; exact h
      | ok y => rw [q2] at h; exact fun v H2 M2 r S2 st2 => h v H2 M2 r S2 (st1.trans st2)
    cases k with
    | true => exact go a h
    | false => exact go b h
end
end MP

namespace MP
open PySem PySem.Spec PyProof.Rows L2

abbrev Ef := Store → R (List D × Store)
/-- a new list that nobody else knows: how the heap was without it -/
structure NewL (K : PySem.W.Frag) (τ : LTab) (F : Fr) (σ : L2.St) (H : Hp) (M : Addr → Prop) (ρ : Store) (ds : List D) (p : Addr) (H' : Hp) : Prop where
  ex : ∃ (H0 : Hp) (M0 : Addr → Prop) (vs : List V), SR K τ F H0 M0 σ ρ ∧ H0 p = none ∧ New H0 H' ∧ H' p = some (.lst vs) ∧ RepL K H0 M0 vs ds ∧ Step H M H0 M0
def tOfF (K : PySem.W.Frag) (τ : LTab) (Wi : WiT) (f : Ef) : TE := fun σ H Q => ∃ F M ρ, SR K τ F H M σ ρ ∧ match f ρ with
  | .bad => False
  | .exc c p => Wi F c p
  | .ok (ds, ρ') => ∀ p H', NewL K τ F σ H M ρ' ds p H' → Q (.ref p) H'

section
variable {K : PySem.W.Frag} {τ : LTab} {Wi : WiT} {F : Fr} {H H' : Hp} {M M' : Addr → Prop} {σ : L2.St} {ρ : Store} {ds : List D} {p : Addr}
/-- .. taken as a frozen value -/
theorem NewL.fz (h : NewL K τ F σ H M ρ ds p H') : ∃ M', Rep K H' M' (.ref p) (.lst ds) ∧ SR K τ F H' M' σ ρ ∧ Step H M H' M' := by
  obtain ⟨H0, M0, vs, S, hp, n, e, r, st⟩ := h
  exact ⟨M0, .lst ⟨e, id, fun _ z => S.dom p z hp⟩ (r.to n.step), S.new n, st.trans n.step⟩
/-- .. taken as an owned one -/
theorem NewL.own (h : NewL K τ F σ H M ρ ds p H') : ∃ M', M' p ∧ ¬ F.M0 p ∧ OwnR K H' M' p (.lst ds) ∧ SR K τ F H' M' σ ρ ∧ Step H M H' M' ∧ ∀ i, ¬ OwnAt H' σ ρ i p := by
  obtain ⟨H0, M0, vs, S, hp, n, e, r, st⟩ := h
  have s2 : Step H0 M0 H' (fun b => M0 b ∨ b = p) := fun a o f => ⟨n a o f.1, f.2.1, fun m z => z.elim (f.2.2 m) fun z => by
    have q := f.1
    rw [z, hp] at q
    cases q⟩
  have at_ : ∀ a, M0 a → H' a = H0 a := fun a m => by
    cases e : H0 a with
    | none => exact absurd e (S.dom a m)
    | some o => exact n a o e
  have sl := fun i => S.slSame (M' := fun b => M0 b ∨ b = p) s2 (fun b q => .inl (S.sub b q)) i fun b q => ⟨at_ b (S.ownM q), .inl (.inl (S.ownM q))⟩
  refine ⟨fun b => M0 b ∨ b = p, .inr rfl, fun z => S.dom p (S.sub p z) hp, .lst e (r.to s2), ⟨S.io, fun a q => .inl (S.sub a q), fun a q => ?_, S.keep.trans s2, fun a h1 h2 => (at_ a (S.sub a h1)).trans (S.rest a h1 h2), S.len, fun i => (sl i).1, fun i j a h1 h2 => S.apart i j a ((sl i).2 a h1) ((sl j).2 a h2), ⟨S.tab.1.ext n, fun a q => q.elim (fun q => (S.tab.new S.dom n).2 a q) fun q => by rw [q]; exact ⟨_, e, True.intro⟩⟩⟩, st.trans s2, fun i h => S.dom p (S.ownM ((sl i).2 p h)) hp⟩
  rcases q with q | q
  · rw [at_ a q]; exact S.dom a q
  · rw [q, e]; exact fun z => nomatch z
def fz (f : Ef) : Ex := fun ρ => (f ρ).bind fun x => .ok (.lst x.1, x.2)
theorem t_fz {f : Ef} {Q : VK} (h : tOf K τ Wi (fz f) σ H Q) : tOfF K τ Wi f σ H Q := by
  obtain ⟨F, M, ρ, S, h⟩ := h
  refine ⟨F, M, ρ, S, ?_⟩
  unfold fz at h
  cases q : f ρ with
  | bad => rw [q] at h; exact h
  | exc c p => rw [q] at h; exact h
  | ok x =>
    rw [q] at h
    refine fun p H' nw => ?_
    obtain ⟨M', r, S', st⟩ := nw.fz
    exact h (.ref p) H' M' r S' st

/-! ### new lists by operations -/
def op1F (g : D → Option (List D)) (f1 : Eo) : Ef := fun ρ => (f1 ρ).bind fun x => (ofO ((res x.2 x.1).bind g)).bind fun d => .ok (d, x.2)
def op2F (g : D → D → Option (List D)) (f1 f2 : Eo) : Ef := fun ρ => (f1 ρ).bind fun x => (f2 x.2).bind fun y => (ofO ((res y.2 x.1).bind fun a => (res y.2 y.1).bind fun b => g a b)).bind fun d => .ok (d, y.2)
def opNF (g : List D → Option (List D)) (fs : Ea) : Ef := fun ρ => (fs ρ).bind fun x => (ofO ((resL x.2 x.1).bind g)).bind fun d => .ok (d, x.2)
def G1F (K : PySem.W.Frag) (r : V → Hp → VK → Prop) (g : D → Option (List D)) : Prop := ∀ (H : Hp) (M : Addr → Prop) (x : V) (a : D) (ds : List D) (Q : VK), (∀ a, M a → H a ≠ none) → RepM K H M x a → g a = some ds →
  (∀ p H' vs, H p = none → New H H' → H' p = some (.lst vs) → RepL K H M vs ds → Q (.ref p) H') → r x H Q
def G2F (K : PySem.W.Frag) (r : R2) (g : D → D → Option (List D)) : Prop := ∀ (H : Hp) (M : Addr → Prop) (x y : V) (a b : D) (ds : List D) (Q : VK), (∀ a, M a → H a ≠ none) → RepM K H M x a → RepM K H M y b → g a b = some ds →
  (∀ p H' vs, H p = none → New H H' → H' p = some (.lst vs) → RepL K H M vs ds → Q (.ref p) H') → r x y H Q
def GNF (K : PySem.W.Frag) (r : List V → Hp → VK → Prop) (g : List D → Option (List D)) : Prop := ∀ (H : Hp) (M : Addr → Prop) (xs : List V) (as ds : List D) (Q : VK), (∀ a, M a → H a ≠ none) → RepML K H M xs as → g as = some ds →
  (∀ p H' vs, H p = none → New H H' → H' p = some (.lst vs) → RepL K H M vs ds → Q (.ref p) H') → r xs H Q
theorem t_op1F {g : D → Option (List D)} {r : V → Hp → VK → Prop} {f1 : Eo} {Q : VK} (hg : G1F K r g) (h : tOfF K τ Wi (op1F g f1) σ H Q) : tUn r (tOfO K τ Wi f1) σ H Q := by
  obtain ⟨F, M, ρ, S, h⟩ := h
  refine ⟨F, M, ρ, S, ?_⟩
  unfold op1F at h
  cases q : f1 ρ with
  | bad => rw [q] at h; exact h
  | exc c p => rw [q] at h; exact h
  | ok x =>
    rw [q, R.bind_ok] at h
    refine fun v H1 M1 r1 S1 st1 => ?_
    cases q3 : MP.res x.2 x.1 with
    | none => rw [q3] at h; exact h.elim
    | some a =>
      rw [q3, Option.bind_some] at h
      cases q5 : g a with
      | none => rw [q5] at h; exact h.elim
      | some d =>
        rw [q5] at h
        exact hg H1 M1 v a d Q S1.dom (S1.res r1 q3) q5 fun p H3 vs hp n e rz => h p H3 ⟨_, _, vs, S1, hp, n, e, rz, st1⟩
theorem t_op2F {g : D → D → Option (List D)} {r : R2} {f1 f2 : Eo} {Q : VK} (hg : G2F K r g) (h : tOfF K τ Wi (op2F g f1 f2) σ H Q) : tOp r (tOfO K τ Wi f1) (tOfO K τ Wi f2) σ H Q := by
  obtain ⟨F, M, ρ, S, h⟩ := h
  refine ⟨F, M, ρ, S, ?_⟩
  unfold op2F at h
  cases q : f1 ρ with
  | bad => rw [q] at h; exact h
  | exc c p => rw [q] at h; exact h
  | ok x =>
    rw [q, R.bind_ok] at h
    refine fun v H1 M1 r1 S1 st1 => ⟨F, M1, x.2, S1, ?_⟩
    cases q2 : f2 x.2 with
    | bad => rw [q2] at h; exact h
    | exc c p => rw [q2] at h; exact h
    | ok y =>
      rw [q2, R.bind_ok] at h
      refine fun u H2 M2 r2 S2 st2 => ?_
      cases q3 : MP.res y.2 x.1 with
      | none => rw [q3] at h; exact h.elim
      | some a =>
        rw [q3, Option.bind_some] at h
        cases q4 : MP.res y.2 y.1 with
        | none => rw [q4] at h; exact h.elim
        | some b =>
          rw [q4, Option.bind_some] at h
          cases q5 : g a b with
          | none => rw [q5] at h; exact h.elim
          | some d =>
            rw [q5] at h
            exact hg H2 M2 v u a b d Q S2.dom (S2.res (r1.to st2) q3) (S2.res r2 q4) q5 fun p H3 vs hp n e rz => h p H3 ⟨_, _, vs, S2, hp, n, e, rz, st1.trans st2⟩
theorem t_opNF {g : List D → Option (List D)} {r : List V → Hp → VK → Prop} {fs : Ea} {Q : VK} (hg : GNF K r g) (h : tOfF K τ Wi (opNF g fs) σ H Q) : tOfA K τ Wi fs σ H fun vs H1 => r vs H1 Q := by
  obtain ⟨F, M, ρ, S, h⟩ := h
  refine ⟨F, M, ρ, S, ?_⟩
  unfold opNF at h
  cases q : fs ρ with
  | bad => rw [q] at h; exact h
  | exc c p => rw [q] at h; exact h
  | ok x =>
    rw [q, R.bind_ok] at h
    refine fun v H1 M1 r1 S1 st1 => ?_
    cases q3 : MP.resL x.2 x.1 with
    | none => rw [q3] at h; exact h.elim
    | some a =>
      rw [q3, Option.bind_some] at h
      cases q5 : g a with
      | none => rw [q5] at h; exact h.elim
      | some d =>
        rw [q5] at h
        exact hg H1 M1 v a d Q S1.dom (S1.resL r1 q3) q5 fun p H3 vs hp n e rz => h p H3 ⟨_, _, vs, S1, hp, n, e, rz, st1⟩
/-- a list's display -/
def dspF (fs : Ea) : Ef := fun ρ => (fs ρ).bind fun x => (ofO (vals x.1)).bind fun ds => if ds.length ≤ 1000 then .ok (ds, x.2) else .bad
theorem t_lstF {fs : Ea} {Q : VK} (h : tOfF K τ Wi (dspF fs) σ H Q) : tLst (tOfA K τ Wi fs) σ H Q := by
  obtain ⟨F, M, ρ, S, h⟩ := h
  refine ⟨F, M, ρ, S, ?_⟩
  unfold dspF at h
  cases q : fs ρ with
  | bad => rw [q] at h; exact h
  | exc c p => rw [q] at h; exact h
  | ok x =>
    rw [q, R.bind_ok] at h
    refine fun vs H1 M1 r1 S1 st1 => ?_
    cases q3 : vals x.1 with
    | none => rw [q3] at h; exact h.elim
    | some ds =>
      rw [q3, ofO_some, R.bind_ok] at h
      have rl := RepML.reps r1 (vals_eq q3)
      by_cases hl : ds.length ≤ 1000
      · rw [if_pos hl] at h
        exact ⟨by rw [rl.length, sizeLine_eq]; omega, fun p hp => h p _ ⟨_, _, vs, S1, hp, New.upd hp, upd_same, rl, st1⟩⟩
      · rw [if_neg hl] at h; exact h.elim

/-! ### and, or, not as values (bools) -/
def eAnd (f g : Ex) : Ex := fun ρ => (f ρ).bind fun x => match x.1 with
  | .bl true => g x.2
  | .bl false => .ok (.bl false, x.2)
  | _ => .bad
def eOr (f g : Ex) : Ex := fun ρ => (f ρ).bind fun x => match x.1 with
  | .bl false => g x.2
  | .bl true => .ok (.bl true, x.2)
  | _ => .bad
def eNot (f : Ex) : Ex := fun ρ => (f ρ).bind fun x => match x.1 with
  | .bl b => .ok (.bl !b, x.2)
  | _ => .bad
theorem tOf_go {g : Ex} {ρ1 : Store} {H1 : Hp} {M1 : Addr → Prop} {Q : VK} (S1 : SR K τ F H1 M1 σ ρ1) (st1 : Step H M H1 M1) (h : match g ρ1 with
        | .bad => False
        | .exc c p => Wi F c p
        | .ok (d, ρ') => ∀ v H' M', Rep K H' M' v d → SR K τ F H' M' σ ρ' → Step H M H' M' → Q v H') : tOf K τ Wi g σ H1 Q := by
  refine ⟨F, M1, ρ1, S1, ?_⟩
  cases q2 : g ρ1 with
  | bad => rw [q2] at h; exact h
  | exc c p => rw [q2] at h; exact h
  | ok y => rw [q2] at h; exact fun v H2 M2 r S2 st2 => h v H2 M2 r S2 (st1.trans st2)
theorem t_eAnd {f g : Ex} {Q : VK} (h : tOf K τ Wi (eAnd f g) σ H Q) : tAndV (tOf K τ Wi f) (tOf K τ Wi g) σ H Q := by
  obtain ⟨F, M, ρ, S, h⟩ := h
  refine ⟨F, M, ρ, S, ?_⟩
  unfold eAnd at h
  cases q : f ρ with
  | bad => rw [q] at h; exact h
  | exc c p => rw [q] at h; exact h
  | ok x =>
    obtain ⟨d, ρ1⟩ := x
    rw [q, R.bind_ok] at h
    refine fun v H1 M1 r1 S1 st1 => ?_
    cases r1 with
    | bl b =>
      refine ⟨b, rfl, ?_⟩
      cases b with
      | true => exact tOf_go S1 st1 h
      | false => exact h _ H1 M1 (.bl false) S1 st1
    | _ => exact h.elim
theorem t_eOr {f g : Ex} {Q : VK} (h : tOf K τ Wi (eOr f g) σ H Q) : tOrV (tOf K τ Wi f) (tOf K τ Wi g) σ H Q := by
  obtain ⟨F, M, ρ, S, h⟩ := h
  refine ⟨F, M, ρ, S, ?_⟩
  unfold eOr at h
  cases q : f ρ with
  | bad => rw [q] at h; exact h
  | exc c p => rw [q] at h; exact h
  | ok x =>
    obtain ⟨d, ρ1⟩ := x
    rw [q, R.bind_ok] at h
    refine fun v H1 M1 r1 S1 st1 => ?_
    cases r1 with
    | bl b =>
      refine ⟨b, rfl, ?_⟩
      cases b with
      | false => exact tOf_go S1 st1 h
      | true => exact h _ H1 M1 (.bl true) S1 st1
    | _ => exact h.elim
theorem t_eNot {f : Ex} {Q : VK} (h : tOf K τ Wi (eNot f) σ H Q) : tNotV (tOf K τ Wi f) σ H Q := by
  obtain ⟨F, M, ρ, S, h⟩ := h
  refine ⟨F, M, ρ, S, ?_⟩
  unfold eNot at h
  cases q : f ρ with
  | bad => rw [q] at h; exact h
  | exc c p => rw [q] at h; exact h
  | ok x =>
    obtain ⟨d, ρ1⟩ := x
    rw [q, R.bind_ok] at h
    refine fun v H1 M1 r1 S1 st1 => ?_
    cases r1 with
    | bl b => exact ⟨b, rfl, h _ H1 M1 (.bl !b) S1 st1⟩
    | _ => exact h.elim
/-- a op b op' c -/
def eChain (g g' : D → D → Option D) (f1 f2 f3 : Eo) : Ex := fun ρ => (f1 ρ).bind fun x => (f2 x.2).bind fun y => (ofO ((res y.2 x.1).bind fun a => (res y.2 y.1).bind fun b => g a b)).bind fun d => match d with
  | .bl true => (f3 y.2).bind fun z => (ofO ((res z.2 y.1).bind fun b => (res z.2 z.1).bind fun c => g' b c)).bind fun d' => .ok (d', z.2)
  | .bl false => .ok (.bl false, y.2)
  | _ => .bad
theorem t_chain {g g' : D → D → Option D} {r r' : R2} {f1 f2 f3 : Eo} {Q : VK} (hg : G2 K r g) (hg' : G2 K r' g') (h : tOf K τ Wi (eChain g g' f1 f2 f3) σ H Q) : tChain r r' (tOfO K τ Wi f1) (tOfO K τ Wi f2) (tOfO K τ Wi f3) σ H Q := by
  obtain ⟨F, M, ρ, S, h⟩ := h
  refine ⟨F, M, ρ, S, ?_⟩
  unfold eChain at h
  cases q : f1 ρ with
  | bad => rw [q] at h; exact h
  | exc c p => rw [q] at h; exact h
  | ok x =>
    rw [q, R.bind_ok] at h
    refine fun v H1 M1 r1 S1 st1 => ⟨F, M1, x.2, S1, ?_⟩
    cases q2 : f2 x.2 with
    | bad => rw [q2] at h; exact h
    | exc c p => rw [q2] at h; exact h
    | ok y =>
      rw [q2, R.bind_ok] at h
      refine fun u H2 M2 r2 S2 st2 => ?_
      cases q3 : MP.res y.2 x.1 with
      | none => rw [q3] at h; exact h.elim
      | some a =>
        rw [q3, Option.bind_some] at h
        cases q4 : MP.res y.2 y.1 with
        | none => rw [q4] at h; exact h.elim
        | some b =>
          rw [q4, Option.bind_some] at h
          cases q5 : g a b with
          | none => rw [q5] at h; exact h.elim
          | some d =>
            rw [q5, ofO_some, R.bind_ok] at h
            refine hg H2 M2 v u a b d _ S2.dom (S2.res (r1.to st2) q3) (S2.res r2 q4) q5 fun z H3 n rz => ?_
            have st3 := (st1.trans st2).trans (n.step (M := M2))
            cases rz with
            | bl k =>
              refine ⟨k, rfl, ?_⟩
              cases k with
              | false => exact h _ H3 M2 (.bl false) (S2.new n) st3
              | true =>
                rw [if_pos rfl]
                refine ⟨F, M2, y.2, S2.new n, ?_⟩
                have h : (match ((f3 y.2).bind fun z => (ofO ((MP.res z.2 y.1).bind fun b => (MP.res z.2 z.1).bind fun c => g' b c)).bind fun d' => R.ok (d', z.2)) with
                  | .bad => False
                  | .exc c p => Wi F c p
                  | .ok (d, ρ') => ∀ v H' M', Rep K H' M' v d → SR K τ F H' M' σ ρ' → Step H M H' M' → Q v H') := h
                cases q6 : f3 y.2 with
                | bad => rw [q6] at h; exact h
                | exc c p => rw [q6] at h; exact h
                | ok w =>
                  rw [q6, R.bind_ok] at h
                  refine fun u3 H4 M4 r4 S4 st4 => ?_
                  cases q7 : MP.res w.2 y.1 with
                  | none => rw [q7] at h; exact h.elim
                  | some b2 =>
                    rw [q7, Option.bind_some] at h
                    cases q8 : MP.res w.2 w.1 with
                    | none => rw [q8] at h; exact h.elim
                    | some c2 =>
                      rw [q8, Option.bind_some] at h
                      cases q9 : g' b2 c2 with
                      | none => rw [q9] at h; exact h.elim
                      | some d2 =>
                        rw [q9] at h
                        exact hg' H4 M4 u u3 b2 c2 d2 Q S4.dom (S4.res ((r2.to n.step).to st4) q7) (S4.res r4 q8) q9 fun z H5 n5 rz => h z H5 M4 rz (S4.new n5) ((st3.trans st4).trans n5.step)
            | _ => exact h.elim

/-! ### statements -/
def sSeq (f g : Es) : Es := fun ρ => (f ρ).bind g
def sSkip : Es := fun ρ => .next ρ
def sBrk : Es := fun ρ => .brk ρ
def sCnt : Es := fun ρ => .cnt ρ
def sRet (f : Ex) : Es := fun ρ => (f ρ).thenS fun x => .ret x.1 x.2
def sRetN : Es := fun ρ => .ret .non ρ
def sDrop (f : Ex) : Es := fun ρ => (f ρ).thenS fun x => .next x.2
def sIf (t : Et) (a b : Es) : Es := fun ρ => (t ρ).thenS fun x => if x.1 = true then a x.2 else b x.2
theorem tOfS_go {g : Es} {E : Ends} {ρ1 : Store} {σ1 : L2.St} {H1 : Hp} {M1 : Addr → Prop} (S1 : SR K τ F H1 M1 σ1 ρ1) (st1 : Step H M H1 M1) (h : match g ρ1 with
  | .bad => False
  | .exc c p => Wi F c p
  | .next ρ' => ∀ σ' H' M', SR K τ F H' M' σ' ρ' → Step H M H' M' → E.nx σ' H'
  | .brk ρ' => ∀ σ' H' M', SR K τ F H' M' σ' ρ' → Step H M H' M' → E.bk σ' H'
  | .cnt ρ' => ∀ σ' H' M', SR K τ F H' M' σ' ρ' → Step H M H' M' → E.ct σ' H'
  | .ret d ρ' => ∀ v σ' H' M', Rep K H' M' v d → SR K τ F H' M' σ' ρ' → Step H M H' M' → E.rt v H') : tOfS K τ Wi g E σ1 H1 := by
  refine ⟨F, M1, ρ1, S1, ?_⟩
  cases q2 : g ρ1 with
  | bad => rw [q2] at h; exact h
  | exc c p => rw [q2] at h; exact h
  | next y => rw [q2] at h; exact fun σ2 H2 M2 S2 st2 => h σ2 H2 M2 S2 (st1.trans st2)
  | brk y => rw [q2] at h; exact fun σ2 H2 M2 S2 st2 => h σ2 H2 M2 S2 (st1.trans st2)
  | cnt y => rw [q2] at h; exact fun σ2 H2 M2 S2 st2 => h σ2 H2 M2 S2 (st1.trans st2)
  | ret d y => rw [q2] at h; exact fun v σ2 H2 M2 r S2 st2 => h v σ2 H2 M2 r S2 (st1.trans st2)
theorem t_sSkip {E : Ends} (h : tOfS K τ Wi sSkip E σ H) : tNext E σ H := by
  obtain ⟨F, M, ρ, S, h⟩ := h
  exact h σ H M S Step.refl
theorem t_sBrk {E : Ends} (h : tOfS K τ Wi sBrk E σ H) : tBreak E σ H := by
  obtain ⟨F, M, ρ, S, h⟩ := h
  exact h σ H M S Step.refl
theorem t_sCnt {E : Ends} (h : tOfS K τ Wi sCnt E σ H) : tCont E σ H := by
  obtain ⟨F, M, ρ, S, h⟩ := h
  exact h σ H M S Step.refl
theorem t_sRetN {E : Ends} (h : tOfS K τ Wi sRetN E σ H) : tRetN E σ H := by
  obtain ⟨F, M, ρ, S, h⟩ := h
  exact h .non σ H M .non S Step.refl
theorem t_sRet {f : Ex} {E : Ends} (h : tOfS K τ Wi (sRet f) E σ H) : tRet (tOf K τ Wi f) E σ H := by
  obtain ⟨F, M, ρ, S, h⟩ := h
  refine ⟨F, M, ρ, S, ?_⟩
  unfold sRet at h
  cases q : f ρ with
  | bad => rw [q] at h; exact h
  | exc c p => rw [q] at h; exact h
  | ok x => rw [q] at h; exact fun v H' M' r S' st => h v σ H' M' r S' st
theorem t_sDrop {f : Ex} {E : Ends} (h : tOfS K τ Wi (sDrop f) E σ H) : tDrop (tOf K τ Wi f) E σ H := by
  obtain ⟨F, M, ρ, S, h⟩ := h
  refine ⟨F, M, ρ, S, ?_⟩
  unfold sDrop at h
  cases q : f ρ with
  | bad => rw [q] at h; exact h
  | exc c p => rw [q] at h; exact h
  | ok x => rw [q] at h; exact fun v H' M' r S' st => h σ H' M' S' st
theorem t_sSeq {f g : Es} {E : Ends} (h : tOfS K τ Wi (sSeq f g) E σ H) : tSeq (tOfS K τ Wi f) (tOfS K τ Wi g) E σ H := by
  obtain ⟨F, M, ρ, S, h⟩ := h
  refine ⟨F, M, ρ, S, ?_⟩
  unfold sSeq at h
  cases q : f ρ with
  | bad => rw [q] at h; exact h
  | exc c p => rw [q] at h; exact h
  | next y => rw [q] at h; exact fun σ' H' M' S' st => tOfS_go S' st h
  | brk y => rw [q] at h; exact h
  | cnt y => rw [q] at h; exact h
  | ret d y => rw [q] at h; exact h
theorem t_sIf {t : Et} {a b : Es} {E : Ends} (h : tOfS K τ Wi (sIf t a b) E σ H) : tIfS (tOfT K τ Wi t) (tOfS K τ Wi a) (tOfS K τ Wi b) E σ H := by
  obtain ⟨F, M, ρ, S, h⟩ := h
  refine ⟨F, M, ρ, S, ?_⟩
  unfold sIf at h
  cases q : t ρ with
  | bad => rw [q] at h; exact h
  | exc c p => rw [q] at h; exact h
  | ok x =>
    obtain ⟨k, ρ1⟩ := x
    rw [q] at h
    refine fun H1 M1 S1 st1 => ?_
    cases k with
    | true => exact tOfS_go S1 st1 h
    | false => exact tOfS_go S1 st1 h

/-! ### stores -/
def noBo (ρ : Store) (i : Nat) : Bool := match ρ[i]? with
  | some (.bo _) => false
  | _ => true
theorem SR.setVa {i : Nat} {v : V} {d : D} (S : SR K τ F H M σ ρ) (r : Rep K H M v d) : SR K τ F H M (σ.set i (some v)) (ρ.set i (.va d)) := by
  refine ⟨S.io, S.sub, S.dom, S.keep, S.rest, by rw [List.length_set, List.length_set]; exact S.len, fun j => ?_, fun j k b hj hk => ?_, S.tab⟩
  · by_cases hj : j = i
    · subst hj
      by_cases hl : j < ρ.length
      · rw [List.getElem?_set_self hl, List.getElem?_set_self (by rw [← S.len]; exact hl)]
        exact .va r
      · rw [List.getElem?_eq_none (l := ρ.set j (.va d)) (by rw [List.length_set]; omega)]
        exact .nil
    · rw [List.getElem?_set_ne (Ne.symm hj), List.getElem?_set_ne (Ne.symm hj)]
      exact S.sl j
  · have back : ∀ {j : Nat} {b : Addr}, OwnAt H (σ.set i (some v)) (ρ.set i (.va d)) j b → OwnAt H σ ρ j b := fun h => by
      rcases h.set2 with ⟨_, h⟩ | ⟨_, _, _, h⟩
      · exact h
      · exact h.elim
    exact S.apart j k b (back hj) (back hk)
theorem SR.setOw {i : Nat} {a : Addr} {ds : List D} (S : SR K τ F H M σ ρ) (hm : M a) (hn : ¬ F.M0 a) (r : OwnR K H M a (.lst ds)) (new : ∀ i, ¬ OwnAt H σ ρ i a) : SR K τ F H M (σ.set i (some (.ref a))) (ρ.set i (.ow (.lst ds))) := by
  refine ⟨S.io, S.sub, S.dom, S.keep, S.rest, by rw [List.length_set, List.length_set]; exact S.len, fun j => ?_, fun j k b hj hk => ?_, S.tab⟩
  · by_cases hj : j = i
    · subst hj
      by_cases hl : j < ρ.length
      · rw [List.getElem?_set_self hl, List.getElem?_set_self (by rw [← S.len]; exact hl)]
        exact .ow hm hn r
      · rw [List.getElem?_eq_none (l := ρ.set j _) (by rw [List.length_set]; omega)]
        exact .nil
    · rw [List.getElem?_set_ne (Ne.symm hj), List.getElem?_set_ne (Ne.symm hj)]
      exact S.sl j
  · have back : ∀ {j : Nat} {b : Addr}, OwnAt H (σ.set i (some (.ref a))) (ρ.set i (.ow (.lst ds))) j b → (j = i ∧ b = a) ∨ (j ≠ i ∧ OwnAt H σ ρ j b) := fun h => by
      rcases h.set2 with h | ⟨hj, c, e, h⟩
      · exact .inr h
      · cases e
        exact .inl ⟨hj, h⟩
    rcases back hj with ⟨j1, b1⟩ | ⟨_, o1⟩ <;> rcases back hk with ⟨k1, b2⟩ | ⟨_, o2⟩
    · rw [j1, k1]
    · exact absurd (b1 ▸ o2) (new k)
    · exact absurd (b2 ▸ o1) (new j)
    · exact S.apart j k b o1 o2
/-- name = value -/
def sSet (i : Nat) (f : Ex) : Es := fun ρ => (f ρ).thenS fun x => if noBo x.2 i = true then .next (x.2.set i (.va x.1)) else .bad
def sOwn (i : Nat) (f : Ef) : Es := fun ρ => (f ρ).thenS fun x => if noBo x.2 i = true then .next (x.2.set i (.ow (.lst x.1))) else .bad
theorem t_sSet {i : Nat} {f : Ex} {E : Ends} (h : tOfS K τ Wi (sSet i f) E σ H) : tAsg (tOf K τ Wi f) (gName i) E σ H := by
  obtain ⟨F, M, ρ, S, h⟩ := h
  refine ⟨F, M, ρ, S, ?_⟩
  unfold sSet at h
  cases q : f ρ with
  | bad => rw [q] at h; exact h
  | exc c p => rw [q] at h; exact h
  | ok x =>
    obtain ⟨d, ρ1⟩ := x
    rw [q] at h
    refine fun v H' M' r S' st => ?_
    have h : (match (if noBo ρ1 i = true then FR.next (ρ1.set i (.va d)) else FR.bad) with
      | .bad => False
      | .exc c p => Wi F c p
      | .next ρ' => ∀ σ' H' M', SR K τ F H' M' σ' ρ' → Step H M H' M' → E.nx σ' H'
      | .brk ρ' => ∀ σ' H' M', SR K τ F H' M' σ' ρ' → Step H M H' M' → E.bk σ' H'
      | .cnt ρ' => ∀ σ' H' M', SR K τ F H' M' σ' ρ' → Step H M H' M' → E.ct σ' H'
      | .ret d ρ' => ∀ v σ' H' M', Rep K H' M' v d → SR K τ F H' M' σ' ρ' → Step H M H' M' → E.rt v H') := h
    by_cases hb : noBo ρ1 i = true
    · rw [if_pos hb] at h
      exact h _ H' M' (S'.setVa r) st
    · rw [if_neg hb] at h; exact h.elim
theorem t_sOwn {i : Nat} {f : Ef} {E : Ends} (h : tOfS K τ Wi (sOwn i f) E σ H) : tAsg (tOfF K τ Wi f) (gName i) E σ H := by
  obtain ⟨F, M, ρ, S, h⟩ := h
  refine ⟨F, M, ρ, S, ?_⟩
  unfold sOwn at h
  cases q : f ρ with
  | bad => rw [q] at h; exact h
  | exc c p => rw [q] at h; exact h
  | ok x =>
    obtain ⟨ds, ρ1⟩ := x
    rw [q] at h
    refine fun p H' nw => ?_
    have h : (match (if noBo ρ1 i = true then FR.next (ρ1.set i (.ow (.lst ds))) else FR.bad) with
      | .bad => False
      | .exc c p => Wi F c p
      | .next ρ' => ∀ σ' H' M', SR K τ F H' M' σ' ρ' → Step H M H' M' → E.nx σ' H'
      | .brk ρ' => ∀ σ' H' M', SR K τ F H' M' σ' ρ' → Step H M H' M' → E.bk σ' H'
      | .cnt ρ' => ∀ σ' H' M', SR K τ F H' M' σ' ρ' → Step H M H' M' → E.ct σ' H'
      | .ret d ρ' => ∀ v σ' H' M', Rep K H' M' v d → SR K τ F H' M' σ' ρ' → Step H M H' M' → E.rt v H') := h
    by_cases hb : noBo ρ1 i = true
    · rw [if_pos hb] at h
      obtain ⟨M', hm, hn, r, S', st, new⟩ := nw.own
      exact h _ H' M' (S'.setOw hm hn r new) st
    · rw [if_neg hb] at h; exact h.elim
end
end MP

namespace MP
open PySem PySem.Spec PyProof.Rows L2

/-! ### targets -/
abbrev Tg := D → Store → R Store
def Keeps (T : List Nat) (σ σ' : L2.St) : Prop := σ'.length = σ.length ∧ ∀ j : Nat, j ∉ T → σ'[j]? = σ[j]?
theorem Keeps.refl {T : List Nat} {σ : L2.St} : Keeps T σ σ := ⟨rfl, fun _ _ => rfl⟩
theorem Keeps.trans {T : List Nat} {σ σ1 σ2 : L2.St} (a : Keeps T σ σ1) (b : Keeps T σ1 σ2) : Keeps T σ σ2 := ⟨b.1.trans a.1, fun j h => (b.2 j h).trans (a.2 j h)⟩
theorem Keeps.set {T : List Nat} {σ : L2.St} {i : Nat} {x : Option V} (h : i ∈ T) : Keeps T σ (σ.set i x) := ⟨List.length_set, fun j hj => List.getElem?_set_ne (fun e => hj (by rw [← e]; exact h))⟩
def tOfG (K : PySem.W.Frag) (τ : LTab) (Wi : WiT) (T : List Nat) (g : Tg) : TG := fun v σ H Q => ∃ F M ρ d, SR K τ F H M σ ρ ∧ Rep K H M v d ∧ match g d ρ with
  | .bad => False
  | .exc c p => Wi F c p
  | .ok ρ' => ∀ σ' H' M', Keeps T σ σ' → SR K τ F H' M' σ' ρ' → Step H M H' M' → Q σ' H'
def gAll : List Tg → List D → Store → R Store
  | [], [], ρ => .ok ρ
  | g :: gs, d :: ds, ρ => (g d ρ).bind fun ρ' => gAll gs ds ρ'
  | _, _, _ => .bad
def tOfGs (K : PySem.W.Frag) (τ : LTab) (Wi : WiT) (T : List Nat) (gs : List Tg) : TGs := fun vs σ H Q => ∃ F M ρ ds, SR K τ F H M σ ρ ∧ RepL K H M vs ds ∧ match gAll gs ds ρ with
  | .bad => False
  | .exc c p => Wi F c p
  | .ok ρ' => ∀ σ' H' M', Keeps T σ σ' → SR K τ F H' M' σ' ρ' → Step H M H' M' → Q σ' H'
def gNm (i : Nat) : Tg := fun d ρ => if noBo ρ i = true then .ok (ρ.set i (.va d)) else .bad
def gTp (n : Nat) (gs : List Tg) : Tg := fun d ρ => match d with
  | .tup ds => if ds.length = n then gAll gs ds ρ else .bad
  | .lst ds => if ds.length = n then gAll gs ds ρ else .bad
  | _ => .bad
/-- a tuple or a list unpacked -/
def gTL (K : PySem.W.Frag) (n : Nat) (t : TGs) : TG := fun v σ H Q => gTup K n t v σ H Q ∨ gLst K n t v σ H Q
theorem pg_tl {X : Cx} {pos : Pos} {es : List Expr} {k : Nat} {t : TGs} {n : Nat} (hc : X.calm = true) (h : PGs X es t)
    (hn : (assignEach es X.env).length = n) (hst : (assignEach es X.env).findIdx? (·.1) = none) : PG X (.Tuple es k pos) (gTL X.K n t) :=
  ⟨fun pins s σ H v u Q I r hw => hw.elim ((pg_tup hc h hn hst).run pins s σ H v u Q I r) ((pg_lst hc h hn hst).run pins s σ H v u Q I r)⟩
def setAt (ρ : Store) (i : Nat) (k : Int) (d : D) : R Store := match ρ[i]? with
  | some (.ow (.lst ds)) => (ofO (ixN ds.length k)).bind fun j => .ok (ρ.set i (.ow (.lst (ds.set j d))))
  | some (.bo (.lst ds)) => (ofO (ixN ds.length k)).bind fun j => .ok (ρ.set i (.bo (.lst (ds.set j d))))
  | _ => .bad
/-- slot[e] = .. -/
def gSb (i : Nat) (fi : Eo) : Tg := fun d ρ => (pk i ρ).bind fun o => (fi o.2).bind fun x => (ofO (res x.2 x.1)).bind fun k => match k with
  | .int k => setAt x.2 i k d
  | _ => .bad

section
variable {K : PySem.W.Frag} {τ : LTab} {Wi : WiT} {F : Fr} {H H' : Hp} {M M' : Addr → Prop} {σ : L2.St} {ρ : Store} {ds : List D} {T : List Nat}
theorem t_gNm {i : Nat} {v : V} {Q : L2.St → Hp → Prop} (hi : i ∈ T) (h : tOfG K τ Wi T (gNm i) v σ H Q) : gName i v σ H Q := by
  obtain ⟨F, M, ρ, d, S, r, h⟩ := h
  unfold gNm at h
  by_cases hb : noBo ρ i = true
  · rw [if_pos hb] at h
    exact h _ H M (.set hi) (S.setVa r) Step.refl
  · rw [if_neg hb] at h; exact h.elim
theorem t_gNil {vs : List V} {Q : L2.St → Hp → Prop} (h : tOfGs K τ Wi T [] vs σ H Q) : gNil vs σ H Q := by
  obtain ⟨F, M, ρ, ds, S, r, h⟩ := h
  cases r with
  | nil => exact ⟨rfl, h σ H M .refl S Step.refl⟩
  | cons _ _ => exact h.elim
theorem t_gCons {g : Tg} {gs : List Tg} {vs : List V} {Q : L2.St → Hp → Prop} (h : tOfGs K τ Wi T (g :: gs) vs σ H Q) : gCons (tOfG K τ Wi T g) (tOfGs K τ Wi T gs) vs σ H Q := by
  obtain ⟨F, M, ρ, ds, S, r, h⟩ := h
  cases r with
  | nil => exact h.elim
  | @cons v vs d ds r1 r2 =>
    refine ⟨v, vs, rfl, F, M, ρ, d, S, r1, ?_⟩
    have h : (match (g d ρ).bind fun ρ' => gAll gs ds ρ' with
      | .bad => False
      | .exc c p => Wi F c p
      | .ok ρ' => ∀ σ' H' M', Keeps T σ σ' → SR K τ F H' M' σ' ρ' → Step H M H' M' → Q σ' H') := h
    cases q : g d ρ with
    | bad => rw [q] at h; exact h
    | exc c p => rw [q] at h; exact h
    | ok ρ1 =>
      rw [q, R.bind_ok] at h
      refine fun σ1 H1 M1 k1 S1 st1 => ⟨F, M1, ρ1, ds, S1, r2.to st1, ?_⟩
      cases q2 : gAll gs ds ρ1 with
      | bad => rw [q2] at h; exact h
      | exc c p => rw [q2] at h; exact h
      | ok ρ2 => rw [q2] at h; exact fun σ2 H2 M2 k2 S2 st2 => h σ2 H2 M2 (k1.trans k2) S2 (st1.trans st2)
theorem t_gTp {n : Nat} {gs : List Tg} {v : V} {Q : L2.St → Hp → Prop} (h : tOfG K τ Wi T (gTp n gs) v σ H Q) : gTL K n (tOfGs K τ Wi T gs) v σ H Q := by
  obtain ⟨F, M, ρ, d, S, r, h⟩ := h
  cases r with
  | @tup a vs ds r1 r2 =>
    have h : (match (if ds.length = n then gAll gs ds ρ else R.bad) with
      | .bad => False
      | .exc c p => Wi F c p
      | .ok ρ' => ∀ σ' H' M', Keeps T σ σ' → SR K τ F H' M' σ' ρ' → Step H M H' M' → Q σ' H') := h
    by_cases hn : ds.length = n
    · rw [if_pos hn] at h
      exact .inl ⟨a, vs, rfl, SqT.ofFx r1, r2.length.trans hn, F, M, ρ, ds, S, r2, h⟩
    · rw [if_neg hn] at h; exact h.elim
  | @lst a vs ds r1 r2 =>
    have h : (match (if ds.length = n then gAll gs ds ρ else R.bad) with
      | .bad => False
      | .exc c p => Wi F c p
      | .ok ρ' => ∀ σ' H' M', Keeps T σ σ' → SR K τ F H' M' σ' ρ' → Step H M H' M' → Q σ' H') := h
    by_cases hn : ds.length = n
    · rw [if_pos hn] at h
      exact .inr ⟨a, vs, rfl, SqL.ofFx r1, r2.length.trans hn, F, M, ρ, ds, S, r2, h⟩
    · rw [if_neg hn] at h; exact h.elim
  | _ => exact h.elim
/-- the list in an owned slot is written -/
theorem SR.write {i : Nat} {a : Addr} {x x' : Sl} {vs' : List V} {ds ds' : List D} (S : SR K τ F H M σ ρ) (hσ : σ[i]? = some (some (.ref a))) (hρ : ρ[i]? = some x)
    (hx : (x = .ow (.lst ds) ∧ x' = .ow (.lst ds')) ∨ (x = .bo (.lst ds) ∧ x' = .bo (.lst ds'))) (r : RepL K H M vs' ds') : SR K τ F (upd H a (.lst vs')) M σ (ρ.set i x') ∧ Step H M (upd H a (.lst vs')) M := by
  have own : x.own = true := by rcases hx with ⟨e, _⟩ | ⟨e, _⟩ <;> subst e <;> rfl
  have own' : x'.own = true := by rcases hx with ⟨_, e⟩ | ⟨_, e⟩ <;> subst e <;> rfl
  have si := S.sl i
  rw [hσ, hρ] at si
  have ha : M a ∧ (∃ vs, H a = some (.lst vs)) ∧ (F.M0 a → F.io a) := by
    rcases hx with ⟨e, _⟩ | ⟨e, _⟩ <;> subst e
    · cases si with
      | ow h1 h2 h3 => cases h3 with | lst q _ => exact ⟨h1, ⟨_, q⟩, fun z => absurd z h2⟩
    · cases si with
      | bo h1 h2 h3 => cases h3 with | lst q _ => exact ⟨S.sub _ h1, ⟨_, q⟩, fun _ => h2⟩
  obtain ⟨hm, ⟨vs, hl⟩, hio⟩ := ha
  have st : Step H M (upd H a (.lst vs')) M := fun b o f => by
    have hb : b ≠ a := by
      intro e
      rw [e] at f
      have q := f.1
      rw [hl] at q
      have q' := Option.some.inj q
      subst q'
      exact f.2.2 True.intro hm
    exact ⟨by rw [upd_ne hb]; exact f.1, f.2⟩
  have elsewhere := fun j (hj : j ≠ i) => S.slSame (M' := M) st S.sub j fun b q => ⟨upd_ne fun z => hj (S.apart j i a (z ▸ q) (.top hσ hρ own)), .inl (S.ownM q)⟩
  have hi : i < ρ.length := (List.getElem?_eq_some_iff.mp hρ).1
  refine ⟨⟨S.io, S.sub, fun b q => ?_, S.keep.trans st, fun b h1 h2 => ?_, by rw [List.length_set]; exact S.len, fun j => ?_, fun j k b hj hk => ?_, tabs_lst S.tab hl⟩, st⟩
  · by_cases hb : b = a
    · rw [hb, upd_same]; exact fun z => nomatch z
    · rw [upd_ne hb]; exact S.dom b q
  · have hb : b ≠ a := fun e => h2 (e ▸ hio (e ▸ h1))
    rw [upd_ne hb]; exact S.rest b h1 h2
  · by_cases hj : j = i
    · subst hj
      rw [List.getElem?_set_self hi, hσ]
      rcases hx with ⟨e, e'⟩ | ⟨e, e'⟩ <;> subst e <;> subst e'
      · cases si with
        | ow h1 h2 h3 => exact .ow h1 h2 (.lst upd_same (r.to st))
      · cases si with
        | bo h1 h2 h3 => exact .bo h1 h2 (.lst upd_same (r.to st))
    · rw [List.getElem?_set_ne (Ne.symm hj)]
      exact (elsewhere j hj).1
  · have back : ∀ {j : Nat} {b : Addr}, OwnAt (upd H a (.lst vs')) σ (ρ.set i x') j b → OwnAt H σ ρ j b := fun {j b} h => by
      rcases h.set1 with ⟨hj, h⟩ | ⟨hj, c, e, h⟩
      · exact (elsewhere j hj).2 b h
      · rw [hσ] at e
        cases e
        have e : b = a := by rcases hx with ⟨_, e⟩ | ⟨_, e⟩ <;> subst e <;> exact h
        rw [hj, e]
        exact .top hσ hρ own
    exact S.apart j k b (back hj) (back hk)
/-- an owned slot: its address, its list -/
theorem SR.at {i : Nat} {x : Sl} {ds : List D} (S : SR K τ F H M σ ρ) (hρ : ρ[i]? = some x) (hx : x = .ow (.lst ds) ∨ x = .bo (.lst ds)) : ∃ a vs, σ[i]? = some (some (.ref a)) ∧ H a = some (.lst vs) ∧ RepL K H M vs ds ∧ M a := by
  have s := S.sl i
  rw [hρ] at s
  generalize hxx : σ[i]? = sx at s
  rcases hx with e | e <;> subst e
  · cases s with
    | ow h1 h2 h3 => cases h3 with | lst q r => exact ⟨_, _, rfl, q, r, h1⟩
  · cases s with
    | bo h1 h2 h3 => cases h3 with | lst q r => exact ⟨_, _, rfl, q, r, S.sub _ h1⟩
theorem res_int {v : V} {o : Opd} {k : Int} (S : SR K τ F H M σ ρ) (h : OpdR K H M σ v o) (e : MP.res ρ o = some (.int k)) : v = .int k := by
  rcases S.res h e with q | ⟨a, _, q⟩
  · cases q; rfl
  · cases q
theorem t_gSb {i : Nat} {fi : Eo} {v : V} {Q : L2.St → Hp → Prop} (h : tOfG K τ Wi T (gSb i fi) v σ H Q) : gSub (tVar i) (tOfO K τ Wi fi) rSetL v σ H Q := by
  obtain ⟨F, M, ρ, d, S, r, h⟩ := h
  unfold gSb at h
  have p0 : tOfO K τ Wi (pk i) σ H fun o H1 => tOfO K τ Wi fi σ H1 fun ix H2 => rSetL o ix v H2 fun H3 => Q σ H3 := by
    refine ⟨F, M, ρ, S, ?_⟩
    cases q0 : pk i ρ with
    | bad => rw [q0] at h; exact h
    | exc c p => rw [q0] at h; exact h
    | ok o =>
      rw [q0, R.bind_ok] at h
      have eo : o = (.inl i, ρ) := by
        unfold pk at q0
        cases q1 : (ρ[i]?).bind Sl.con with
        | none => rw [q1] at q0; cases q0
        | some d => rw [q1] at q0; cases q0; rfl
      subst eo
      refine fun ov H1 M1 r0 S1 st1 => ⟨F, M1, ρ, S1, ?_⟩
      have h : (match ((fi ρ).bind fun x => (ofO (MP.res x.2 x.1)).bind fun k => match k with
          | .int k => setAt x.2 i k d
          | _ => .bad) with
        | .bad => False
        | .exc c p => Wi F c p
        | .ok ρ' => ∀ σ' H' M', Keeps T σ σ' → SR K τ F H' M' σ' ρ' → Step H M H' M' → Q σ' H') := h
      cases q : fi ρ with
      | bad => rw [q] at h; exact h
      | exc c p => rw [q] at h; exact h
      | ok x =>
        rw [q, R.bind_ok] at h
        refine fun iv H2 M2 r2 S2 st2 => ?_
        cases q3 : MP.res x.2 x.1 with
        | none => rw [q3] at h; exact h.elim
        | some kd =>
          rw [q3, ofO_some, R.bind_ok] at h
          cases kd with
          | int k =>
            have ei := res_int S2 r2 q3
            have h : (match setAt x.2 i k d with
              | .bad => False
              | .exc c p => Wi F c p
              | .ok ρ' => ∀ σ' H' M', Keeps T σ σ' → SR K τ F H' M' σ' ρ' → Step H M H' M' → Q σ' H') := h
            have go : ∀ (y : Sl) (ds : List D) (mk : D → Sl), x.2[i]? = some y → y = mk (.lst ds) → (mk = Sl.ow ∨ mk = Sl.bo) → (match ((ofO (ixN ds.length k)).bind fun j => R.ok (x.2.set i (mk (.lst (ds.set j d))))) with
                | .bad => False
                | .exc c p => Wi F c p
                | .ok ρ' => ∀ σ' H' M', Keeps T σ σ' → SR K τ F H' M' σ' ρ' → Step H M H' M' → Q σ' H') → rSetL ov iv v H2 fun H3 => Q σ H3 := by
              intro y ds mk hy ey hmk h
              cases q4 : ixN ds.length k with
              | none => rw [q4] at h; exact h.elim
              | some j =>
                rw [q4] at h
                obtain ⟨a, vs, e1, e2, rv, hm⟩ := S2.at (ds := ds) hy (by rcases hmk with e | e <;> subst e <;> subst ey <;> first | exact .inl rfl | exact .inr rfl)
                have r0' : σ[i]? = some (some ov) := r0
                rw [e1] at r0'
                have eov : ov = .ref a := (Option.some.inj (Option.some.inj r0')).symm
                obtain ⟨S3, st3⟩ := S2.write (vs' := vs.set j v) (ds := ds) (ds' := ds.set j d) (x := y) (x' := mk (.lst (ds.set j d))) e1 hy (by rcases hmk with e | e <;> subst e <;> subst ey <;> first | exact .inl ⟨rfl, rfl⟩ | exact .inr ⟨rfl, rfl⟩) (rv.set j (r.to (st1.trans st2)))
                exact ⟨a, vs, k, j, eov, ei, e2, by rw [rv.length]; exact q4, h σ _ M2 .refl S3 ((st1.trans st2).trans st3)⟩
            unfold setAt at h
            cases q5 : x.2[i]? with
            | none => rw [q5] at h; exact h.elim
            | some y =>
              rw [q5] at h
              cases y with
              | no => exact h.elim
              | va d => exact h.elim
              | sc d => exact h.elim
              | dc d _ => exact h.elim
              | fn d => exact h.elim
              | ne d _ => exact h.elim
              | ow d0 =>
                cases d0 with
                | lst ds => exact go _ ds .ow q5 rfl (.inl rfl) h
                | _ => exact h.elim
              | bo d0 =>
                cases d0 with
                | lst ds => exact go _ ds .bo q5 rfl (.inr rfl) h
                | _ => exact h.elim
          | _ => exact h.elim
  exact t_pk p0
/-- target = value -/
def sAsg (f : Ex) (g : Tg) : Es := fun ρ => (f ρ).thenS fun x => (g x.1 x.2).thenS fun ρ' => .next ρ'
theorem t_sAsg {f : Ex} {g : Tg} {E : Ends} (h : tOfS K τ Wi (sAsg f g) E σ H) : tAsg (tOf K τ Wi f) (tOfG K τ Wi T g) E σ H := by
  obtain ⟨F, M, ρ, S, h⟩ := h
  refine ⟨F, M, ρ, S, ?_⟩
  unfold sAsg at h
  cases q : f ρ with
  | bad => rw [q] at h; exact h
  | exc c p => rw [q] at h; exact h
  | ok x =>
    obtain ⟨d, ρ1⟩ := x
    rw [q] at h
    refine fun v H1 M1 r S1 st1 => ⟨F, M1, ρ1, d, S1, r, ?_⟩
    have h : (match ((g d ρ1).thenS fun ρ' => FR.next ρ') with
      | .bad => False
      | .exc c p => Wi F c p
      | .next ρ' => ∀ σ' H' M', SR K τ F H' M' σ' ρ' → Step H M H' M' → E.nx σ' H'
      | .brk ρ' => ∀ σ' H' M', SR K τ F H' M' σ' ρ' → Step H M H' M' → E.bk σ' H'
      | .cnt ρ' => ∀ σ' H' M', SR K τ F H' M' σ' ρ' → Step H M H' M' → E.ct σ' H'
      | .ret d ρ' => ∀ v σ' H' M', Rep K H' M' v d → SR K τ F H' M' σ' ρ' → Step H M H' M' → E.rt v H') := h
    cases q2 : g d ρ1 with
    | bad => rw [q2] at h; exact h
    | exc c p => rw [q2] at h; exact h
    | ok ρ2 => rw [q2] at h; exact fun σ2 H2 M2 _ S2 st2 => h σ2 H2 M2 S2 (st1.trans st2)

/-! ### loops -/
def ItOk (K : PySem.W.Frag) (J : It) (H : Hp) (M : Addr → Prop) (ds : List D) : Prop := ds.length ≤ sizeLine ∧ ∀ H2 M2, Step H M H2 M2 → (∀ a, M2 a → H2 a ≠ none) →
  (∀ (i : Nat) (d : D), ds[i]? = some d → J.go i H2 ∧ ∀ x H3, J.yld i H2 x H3 → New H2 H3 ∧ Rep K H3 M2 x d) ∧ J.stop ds.length H2
abbrev Ei := Store → R (List D × Store)
def tOfI (K : PySem.W.Frag) (τ : LTab) (Wi : WiT) (f : Ei) : TI := fun σ H R => ∃ F M ρ, SR K τ F H M σ ρ ∧ match f ρ with
  | .bad => False
  | .exc c p => Wi F c p
  | .ok (ds, ρ') => ∀ J H' M', ItOk K J H' M' ds → SR K τ F H' M' σ ρ' → Step H M H' M' → R J H'
def forL (g : Tg) (b : Es) : List D → Store → FR
  | [], ρ => .next ρ
  | d :: ds, ρ => (g d ρ).thenS fun ρ1 => (b ρ1).turn (forL g b ds)
def sFor (f : Ei) (g : Tg) (b : Es) : Es := fun ρ => (f ρ).thenS fun x => forL g b x.1 x.2
def wF : Nat := 1000000
def whileL (t : Et) (b : Es) : Nat → Store → FR
  | 0, _ => .bad
  | w + 1, ρ => (t ρ).thenS fun x => if x.1 = true then (b x.2).turn (whileL t b w) else .next x.2
def sWh (t : Et) (b : Es) : Es := fun ρ => whileL t b wF ρ
/-- what a result asks -/
def PostS (K : PySem.W.Frag) (τ : LTab) (Wi : WiT) (F : Fr) (E : Ends) (H : Hp) (M : Addr → Prop) (r : FR) : Prop := match r with
  | .bad => False
  | .exc c p => Wi F c p
  | .next ρ' => ∀ σ' H' M', SR K τ F H' M' σ' ρ' → Step H M H' M' → E.nx σ' H'
  | .brk ρ' => ∀ σ' H' M', SR K τ F H' M' σ' ρ' → Step H M H' M' → E.bk σ' H'
  | .cnt ρ' => ∀ σ' H' M', SR K τ F H' M' σ' ρ' → Step H M H' M' → E.ct σ' H'
  | .ret d ρ' => ∀ v σ' H' M', Rep K H' M' v d → SR K τ F H' M' σ' ρ' → Step H M H' M' → E.rt v H'
theorem tOfS_of {g : Es} {E : Ends} (S : SR K τ F H M σ ρ) (h : PostS K τ Wi F E H M (g ρ)) : tOfS K τ Wi g E σ H := ⟨F, M, ρ, S, h⟩
theorem PostS.of {g : Es} {E : Ends} (h : tOfS K τ Wi g E σ H) : ∃ F M ρ, SR K τ F H M σ ρ ∧ PostS K τ Wi F E H M (g ρ) := h
theorem PostS.later {E : Ends} {r : FR} {H1 : Hp} {M1 : Addr → Prop} (h : PostS K τ Wi F E H M r) (st : Step H M H1 M1) : PostS K τ Wi F E H1 M1 r := by
  cases r with
  | bad => exact h
  | exc c p => exact h
  | next ρ => exact fun σ2 H2 M2 S2 st2 => h σ2 H2 M2 S2 (st.trans st2)
  | brk ρ => exact fun σ2 H2 M2 S2 st2 => h σ2 H2 M2 S2 (st.trans st2)
  | cnt ρ => exact fun σ2 H2 M2 S2 st2 => h σ2 H2 M2 S2 (st.trans st2)
  | ret d ρ => exact fun v σ2 H2 M2 r S2 st2 => h v σ2 H2 M2 r S2 (st.trans st2)
theorem t_sFor {f : Ei} {g : Tg} {b : Es} {E : Ends} (h : tOfS K τ Wi (sFor f g b) E σ H) : tFor (tOfI K τ Wi f) (tOfG K τ Wi T g) (tOfS K τ Wi b) E σ H := by
  obtain ⟨F, M, ρ, S, h⟩ := PostS.of h
  refine ⟨F, M, ρ, S, ?_⟩
  unfold sFor at h
  cases q : f ρ with
  | bad => rw [q] at h; exact h
  | exc c p => rw [q] at h; exact h
  | ok x =>
    obtain ⟨ds, ρ1⟩ := x
    rw [q] at h
    have h : PostS K τ Wi F E H M (forL g b ds ρ1) := h
    intro J H1 M1 hJ S1 st1
    refine ⟨fun i m σ2 H2 => ∃ M2 ρ2, SR K τ F H2 M2 σ2 ρ2 ∧ Step H1 M1 H2 M2 ∧ i ≤ ds.length ∧ m = ds.length - i ∧ PostS K τ Wi F E H2 M2 (forL g b (ds.drop i) ρ2), ⟨ds.length, M1, ρ1, S1, Step.refl, Nat.zero_le _, by simp, h.later st1⟩, ?_⟩
    rintro i m σ2 H2 ⟨M2, ρ2, S2, st2, hi, rfl, h2⟩
    obtain ⟨hgo, hst⟩ := hJ.2 H2 M2 st2 S2.dom
    by_cases hlt : i < ds.length
    · obtain ⟨d, hd⟩ : ∃ d, ds[i]? = some d := ⟨ds[i], List.getElem?_eq_getElem hlt⟩
      obtain ⟨go, yl⟩ := hgo i d hd
      have ed : ds.drop i = d :: ds.drop (i + 1) := by
        rw [List.drop_eq_getElem_cons hlt]
        have := List.getElem?_eq_getElem hlt
        rw [hd] at this
        rw [Option.some.inj this]
      rw [ed] at h2
      have h2 : PostS K τ Wi F E H2 M2 ((g d ρ2).thenS fun ρ1 => (b ρ1).turn (forL g b (ds.drop (i + 1)))) := h2
      refine .inr ⟨go, fun σ' H' => ∃ M' ρ', SR K τ F H' M' σ' ρ' ∧ Step H1 M1 H' M' ∧ PostS K τ Wi F E H' M' (forL g b (ds.drop (i + 1)) ρ'), fun σ' H' ⟨M', ρ', S', st', h'⟩ => ⟨ds.length - (i + 1), by omega, M', ρ', S', st', hlt, rfl, h'⟩, fun x H3 hy => ?_⟩
      obtain ⟨n3, r3⟩ := yl x H3 hy
      have S3 := S2.new n3
      have st3 : Step H2 M2 H3 M2 := n3.step
      refine ⟨F, M2, ρ2, d, S3, r3, ?_⟩
      cases q1 : g d ρ2 with
      | bad => rw [q1] at h2; exact h2
      | exc c p => rw [q1] at h2; exact h2
      | ok ρ3 =>
        rw [q1, R.thenS_ok] at h2
        refine fun σ4 H4 M4 _ S4 st4 => tOfS_of S4 ?_
        have stt := st3.trans st4
        cases q2 : b ρ3 with
        | bad => rw [q2] at h2; exact h2
        | exc c p => rw [q2] at h2; exact h2
        | next ρ5 => rw [q2] at h2; exact fun σ5 H5 M5 S5 st5 => ⟨M5, ρ5, S5, (st2.trans stt).trans st5, PostS.later h2 (stt.trans st5)⟩
        | cnt ρ5 => rw [q2] at h2; exact fun σ5 H5 M5 S5 st5 => ⟨M5, ρ5, S5, (st2.trans stt).trans st5, PostS.later h2 (stt.trans st5)⟩
        | brk ρ5 => rw [q2] at h2; exact fun σ5 H5 M5 S5 st5 => h2 σ5 H5 M5 S5 (stt.trans st5)
        | ret d ρ5 => rw [q2] at h2; exact fun v σ5 H5 M5 r5 S5 st5 => h2 v σ5 H5 M5 r5 S5 (stt.trans st5)
    · have e : i = ds.length := by omega
      subst e
      rw [List.drop_length] at h2
      exact .inl ⟨hst, h2 σ2 H2 M2 S2 Step.refl⟩
theorem t_sWh {t : Et} {b : Es} {E : Ends} (h : tOfS K τ Wi (sWh t b) E σ H) : tWhile (tOfT K τ Wi t) (tOfS K τ Wi b) E σ H := by
  obtain ⟨F, M, ρ, S, h⟩ := PostS.of h
  refine ⟨fun m σ2 H2 => ∃ M2 ρ2, SR K τ F H2 M2 σ2 ρ2 ∧ Step H M H2 M2 ∧ PostS K τ Wi F E H2 M2 (whileL t b m ρ2), ⟨wF, M, ρ, S, Step.refl, h⟩, ?_⟩
  rintro m σ2 H2 ⟨M2, ρ2, S2, st2, h2⟩
  cases m with
  | zero => exact h2.elim
  | succ w =>
    have h2 : PostS K τ Wi F E H2 M2 ((t ρ2).thenS fun x => if x.1 = true then (b x.2).turn (whileL t b w) else .next x.2) := h2
    refine ⟨F, M2, ρ2, S2, ?_⟩
    cases q1 : t ρ2 with
    | bad => rw [q1] at h2; exact h2
    | exc c p => rw [q1] at h2; exact h2
    | ok x =>
      obtain ⟨k, ρ3⟩ := x
      rw [q1, R.thenS_ok] at h2
      refine fun H3 M3 S3 st3 => ?_
      cases k with
      | false =>
        rw [if_neg Bool.false_ne_true]
        exact h2 σ2 H3 M3 S3 st3
      | true =>
        rw [if_pos rfl]
        refine ⟨fun σ' H' => ∃ M' ρ', SR K τ F H' M' σ' ρ' ∧ Step H M H' M' ∧ PostS K τ Wi F E H' M' (whileL t b w ρ'), fun σ' H' h' => ⟨w, Nat.lt_succ_self _, h'⟩, tOfS_of S3 ?_⟩
        have h2 : PostS K τ Wi F E H2 M2 ((b ρ3).turn (whileL t b w)) := h2
        cases q2 : b ρ3 with
        | bad => rw [q2] at h2; exact h2
        | exc c p => rw [q2] at h2; exact h2
        | next ρ5 => rw [q2] at h2; exact fun σ5 H5 M5 S5 st5 => ⟨M5, ρ5, S5, (st2.trans st3).trans st5, PostS.later h2 (st3.trans st5)⟩
        | cnt ρ5 => rw [q2] at h2; exact fun σ5 H5 M5 S5 st5 => ⟨M5, ρ5, S5, (st2.trans st3).trans st5, PostS.later h2 (st3.trans st5)⟩
        | brk ρ5 => rw [q2] at h2; exact fun σ5 H5 M5 S5 st5 => h2 σ5 H5 M5 S5 (st3.trans st5)
        | ret d ρ5 => rw [q2] at h2; exact fun v σ5 H5 M5 r5 S5 st5 => h2 v σ5 H5 M5 r5 S5 (st3.trans st5)
end
end MP

namespace MP
open PySem PySem.Spec PyProof.Rows L2

/-! ### comprehensions -/
def ownOk (ρ : Store) (T : List Nat) : Bool := T.all fun i => match ρ[i]? with
  | some x => !x.own
  | none => true
def wipeS (ρ : Store) : List Nat → Store
  | [] => ρ
  | v :: vs => (wipeS ρ vs).set v .no
def back (ρ0 ρ : Store) : List Nat → Store
  | [] => ρ
  | v :: vs => (back ρ0 ρ vs).set v (ρ0.getD v .no)
def noX {α : Type} : R α → R α
  | .ok a => .ok a
  | _ => .bad
@[simp] theorem noX_ok {α : Type} (a : α) : noX (R.ok a) = .ok a := rfl
@[simp] theorem noX_bad {α : Type} : noX (R.bad : R α) = .bad := rfl
def lcL (T : List Nat) (g : Tg) (tt : Et) (elt : Ex) : List D → Store → R (List D × Store)
  | [], ρ => .ok ([], ρ)
  | d :: ds, ρ => (g d ρ).bind fun ρ1 => (tt ρ1).bind fun t => if t.1 = true then
      (elt t.2).bind fun x => (lcL T g tt elt ds (wipeS x.2 T)).bind fun y => .ok (x.1 :: y.1, y.2)
    else lcL T g tt elt ds (wipeS t.2 T)
def lcE (T : List Nat) (it : Ei) (g : Tg) (tt : Et) (elt : Ex) : Ef := fun ρ => (it ρ).bind fun x =>
  if ownOk x.2 T = true then (noX (lcL T g tt elt x.1 (wipeS x.2 T))).bind fun y => .ok (y.1, back x.2 y.2 T) else .bad
def yes : Et := fun ρ => .ok (true, ρ)
def Wi0 : WiT := fun _ _ _ => False

section
variable {K : PySem.W.Frag} {τ : LTab} {Wi : WiT} {F : Fr} {H H' : Hp} {M M' : Addr → Prop} {σ : L2.St} {ρ : Store} {ds : List D} {T : List Nat}
theorem wipe_len {T : List Nat} : (wipe σ T).length = σ.length := wipe_length σ T
theorem wipeS_len : ∀ {T : List Nat}, (wipeS ρ T).length = ρ.length
  | [] => rfl
  | v :: vs => by unfold wipeS; rw [List.length_set, wipeS_len]
theorem back_len {ρ0 : Store} : ∀ {T : List Nat}, (back ρ0 ρ T).length = ρ.length
  | [] => rfl
  | v :: vs => by unfold back; rw [List.length_set, back_len]
theorem wipe_in {j : Nat} : ∀ {T : List Nat}, j ∈ T → j < σ.length → (wipe σ T)[j]? = some none
  | v :: vs, h, hl => by
    unfold wipe
    by_cases e : v = j
    · subst e; rw [List.getElem?_set_self (by rw [wipe_length]; exact hl)]
    · rw [List.getElem?_set_ne e]
      exact wipe_in ((List.mem_cons.mp h).resolve_left (Ne.symm e)) hl
theorem wipe_out {j : Nat} : ∀ {T : List Nat}, j ∉ T → (wipe σ T)[j]? = σ[j]?
  | [], _ => rfl
  | v :: vs, h => by
    unfold wipe
    rw [List.getElem?_set_ne (fun e => h (by rw [e]; exact List.mem_cons_self))]
    exact wipe_out fun z => h (List.mem_cons_of_mem _ z)
theorem wipeS_in {j : Nat} : ∀ {T : List Nat}, j ∈ T → j < ρ.length → (wipeS ρ T)[j]? = some .no
  | v :: vs, h, hl => by
    unfold wipeS
    by_cases e : v = j
    · subst e; rw [List.getElem?_set_self (by rw [wipeS_len]; exact hl)]
    · rw [List.getElem?_set_ne e]
      exact wipeS_in ((List.mem_cons.mp h).resolve_left (Ne.symm e)) hl
theorem wipeS_out {j : Nat} : ∀ {T : List Nat}, j ∉ T → (wipeS ρ T)[j]? = ρ[j]?
  | [], _ => rfl
  | v :: vs, h => by
    unfold wipeS
    rw [List.getElem?_set_ne (fun e => h (by rw [e]; exact List.mem_cons_self))]
    exact wipeS_out fun z => h (List.mem_cons_of_mem _ z)
theorem back_in {ρ0 : Store} {j : Nat} : ∀ {T : List Nat}, j ∈ T → j < ρ.length → (back ρ0 ρ T)[j]? = some (ρ0.getD j .no)
  | v :: vs, h, hl => by
    unfold back
    by_cases e : v = j
    · subst e; rw [List.getElem?_set_self (by rw [back_len]; exact hl)]
    · rw [List.getElem?_set_ne e]
      exact back_in ((List.mem_cons.mp h).resolve_left (Ne.symm e)) hl
theorem back_out {ρ0 : Store} {j : Nat} : ∀ {T : List Nat}, j ∉ T → (back ρ0 ρ T)[j]? = ρ[j]?
  | [], _ => rfl
  | v :: vs, h => by
    unfold back
    rw [List.getElem?_set_ne (fun e => h (by rw [e]; exact List.mem_cons_self))]
    exact back_out fun z => h (List.mem_cons_of_mem _ z)
theorem Keeps.wipe {σ' : L2.St} (k : Keeps T (wipe σ T) σ') : wipe σ' T = wipe σ T := by
  apply List.ext_getElem?
  intro j
  have hl : σ'.length = σ.length := k.1.trans wipe_len
  by_cases hj : j ∈ T
  · by_cases hb : j < σ.length
    · rw [wipe_in hj hb, wipe_in hj (by omega)]
    · rw [List.getElem?_eq_none (by rw [wipe_len]; omega), List.getElem?_eq_none (by rw [wipe_len]; omega)]
  · rw [wipe_out hj, k.2 j hj]
theorem SR.wipe (S : SR K τ F H M σ ρ) (T : List Nat) : SR K τ F H M (L2.wipe σ T) (wipeS ρ T) ∧ ∀ j a, OwnAt H (L2.wipe σ T) (wipeS ρ T) j a → OwnAt H σ ρ j a := by
  have back : ∀ j a, OwnAt H (L2.wipe σ T) (wipeS ρ T) j a → OwnAt H σ ρ j a := fun j a ⟨b, x, h1, h2, h3⟩ => by
    by_cases hj : j ∈ T
    · by_cases hb : j < σ.length
      · rw [wipe_in hj hb] at h1; cases h1
      · rw [List.getElem?_eq_none (by rw [wipe_len]; omega)] at h1; cases h1
    · rw [wipe_out hj] at h1; rw [wipeS_out hj] at h2
      exact ⟨b, x, h1, h2, h3⟩
  refine ⟨⟨S.io, S.sub, S.dom, S.keep, S.rest, by rw [wipeS_len, wipe_len]; exact S.len, fun j => ?_, fun i j a h1 h2 => S.apart i j a (back i a h1) (back j a h2), S.tab⟩, back⟩
  by_cases hj : j ∈ T
  · by_cases hb : j < ρ.length
    · rw [wipeS_in hj hb]; exact .no
    · rw [List.getElem?_eq_none (l := wipeS ρ T) (by rw [wipeS_len]; omega)]; exact .nil
  · rw [wipe_out hj, wipeS_out hj]; exact S.sl j
/-- another frame: an address more is not to be touched -/
theorem SR.inner {Dd : Addr} (S : SR K τ F H M σ ρ) (hm : M Dd) (no : ∀ j, ¬ OwnAt H σ ρ j Dd) : SR K τ ⟨fun a => F.M0 a ∨ a = Dd, M, H, F.io⟩ H M σ ρ := by
  refine ⟨fun a q => .inl (S.io a q), fun a q => q.elim (S.sub a) fun e => e ▸ hm, S.dom, Step.refl, fun _ _ _ => rfl, S.len, fun j => ?_, S.apart, S.tab⟩
  have s := S.sl j
  generalize hx : σ[j]? = sx at s ⊢
  generalize hy : ρ[j]? = sy at s ⊢
  cases s with
  | nil => exact .nil
  | no => exact .no
  | va h => exact .va h
  | sc h => exact .sc h
  | fn h => exact .fn h
  | ow h1 h2 h3 => exact .ow h1 (fun q => q.elim h2 fun e => no j (.top (by rw [hx, e]) hy rfl)) h3
  | dc h1 h2 h3 => exact .dc h1 (fun q => q.elim h2 fun e => no j (.top (by rw [hx, e]) hy rfl)) h3
  | ne h => exact .ne (h.m0 fun b hb n z => z.elim n fun e => no j ⟨_, _, hx, hy, h.owns.mpr (e ▸ hb)⟩)
  | bo h1 h2 h3 => exact .bo (.inl h1) h2 h3
theorem SR.outer {Dd : Addr} {H0 : Hp} {σ0 : L2.St} {ρ0 : Store} {M00 : Addr → Prop} (S0 : SR K τ F H0 M00 σ0 ρ0) (hD : ¬ F.M0 Dd) (S : SR K τ ⟨fun a => F.M0 a ∨ a = Dd, M00, H0, F.io⟩ H M σ ρ) :
    SR K τ F H M σ ρ ∧ M Dd ∧ H Dd = H0 Dd ∧ ∀ j, ¬ OwnAt H σ ρ j Dd := by
  refine ⟨⟨S0.io, fun a q => S.sub a (.inl q), S.dom, S0.keep.trans S.keep, fun a h1 h2 => (S.rest a (.inl h1) h2).trans (S0.rest a h1 h2), S.len, fun j => ?_, S.apart, S.tab⟩, S.sub Dd (.inr rfl), S.rest Dd (.inr rfl) (fun z => hD (S0.io Dd z)), fun j h => hD (S0.io Dd (S.ownF h (.inr rfl)))⟩
  · have s := S.sl j
    generalize hx : σ[j]? = sx at s ⊢
    generalize hy : ρ[j]? = sy at s ⊢
    cases s with
    | nil => exact .nil
    | no => exact .no
    | va h => exact .va h
    | sc h => exact .sc h
    | fn h => exact .fn h
    | ow h1 h2 h3 => exact .ow h1 (fun q => h2 (.inl q)) h3
    | dc h1 h2 h3 => exact .dc h1 (fun q => h2 (.inl q)) h3
    | bo h1 h2 h3 => exact .bo (S0.io _ h2) h2 h3
    | ne h => exact .ne (h.m0 fun b hb n z => n (.inl z))
/-- a list that no slot holds is written -/
theorem SR.poke {a : Addr} {vs vs' : List V} (S : SR K τ F H M σ ρ) (hm : M a) (hn : ¬ F.M0 a) (ha : H a = some (.lst vs)) (no : ∀ j, ¬ OwnAt H σ ρ j a) : SR K τ F (upd H a (.lst vs')) M σ ρ ∧ Step H M (upd H a (.lst vs')) M ∧ ∀ j b, OwnAt (upd H a (.lst vs')) σ ρ j b → OwnAt H σ ρ j b := by
  have st : Step H M (upd H a (.lst vs')) M := fun b o f => by
    have hb : b ≠ a := by
      intro e
      rw [e] at f
      have q := f.1
      rw [ha] at q
      have q' := Option.some.inj q
      subst q'
      exact f.2.2 True.intro hm
    exact ⟨by rw [upd_ne hb]; exact f.1, f.2⟩
  have sl := fun j => S.slSame (M' := M) st S.sub j fun b q => ⟨upd_ne (o := .lst vs') fun e => no j (e ▸ q), .inl (S.ownM q)⟩
  refine ⟨⟨S.io, S.sub, fun b q => ?_, S.keep.trans st, fun b h1 h2 => ?_, S.len, fun j => (sl j).1, fun i j b h1 h2 => S.apart i j b ((sl i).2 b h1) ((sl j).2 b h2), tabs_lst S.tab ha⟩, st, fun j b h => (sl j).2 b h⟩
  · by_cases hb : b = a
    · rw [hb, upd_same]; exact fun z => nomatch z
    · rw [upd_ne hb]; exact S.dom b q
  · have hb : b ≠ a := fun e => hn (by rw [← e]; exact h1)
    rw [upd_ne hb]; exact S.rest b h1 h2
theorem t_lcE {it : Ei} {g : Tg} {tt : Et} {elt : Ex} {Q : VK} (h : tOfF K τ Wi (lcE T it g tt elt) σ H Q) : tLc (tOfI K τ Wi it) (tOfG K τ Wi0 T g) (tOfT K τ Wi0 tt) (tOf K τ Wi0 elt) T σ H Q := by
  obtain ⟨F, M, ρ, S, h⟩ := h
  refine ⟨F, M, ρ, S, ?_⟩
  unfold lcE at h
  cases q : it ρ with
  | bad => rw [q] at h; exact h
  | exc c p => rw [q] at h; exact h
  | ok x =>
    obtain ⟨ds, ρ1⟩ := x
    rw [q, R.bind_ok] at h
    intro J H1 M1 hJ S1 st1 Dd hD
    by_cases hT : ownOk ρ1 T = true
    · rw [if_pos hT] at h
      cases qL : lcL T g tt elt ds (wipeS ρ1 T) with
      | bad => rw [qL] at h; exact h.elim
      | exc c p => rw [qL] at h; exact h.elim
      | ok y =>
        obtain ⟨total, ρf⟩ := y
        rw [qL, noX_ok, R.bind_ok] at h
        have h : ∀ p H', NewL K τ F σ H M (back ρ1 ρf T) total p H' → Q (.ref p) H' := h
        have nw0 : NewL K τ F σ H1 M1 ρ1 [] Dd (upd H1 Dd (.lst [])) := ⟨H1, M1, [], S1, hD, New.upd hD, upd_same, .nil, Step.refl⟩
        obtain ⟨M2, m2, n2, _, S2, st2, no2⟩ := nw0.own
        obtain ⟨S2w, b2⟩ := S2.wipe T
        refine ⟨fun i m H2 => ∃ M2 ρ2 acc out rest, SR K τ F H2 M2 (L2.wipe σ T) ρ2 ∧ M2 Dd ∧ H2 Dd = some (.lst acc) ∧ RepL K H2 M2 acc out ∧ (∀ j, ¬ OwnAt H2 (L2.wipe σ T) ρ2 j Dd) ∧ Step H1 M1 H2 M2 ∧ i ≤ ds.length ∧ acc.length ≤ i ∧ m = ds.length - i ∧
          lcL T g tt elt (ds.drop i) ρ2 = .ok (rest, ρf) ∧ out ++ rest = total,
          ⟨ds.length, M2, wipeS ρ1 T, [], [], total, S2w, m2, upd_same, .nil, fun j z => no2 j (b2 j _ z), st2, Nat.zero_le _, Nat.le_refl _, by simp, by simpa using qL, rfl⟩, ?_⟩
        rintro i m H3 ⟨M3, ρ3, acc, out, rest, S3, m3, hacc, racc, no3, st3, hi, hai, rfl, hL, ht⟩
        obtain ⟨hgo, hst⟩ := hJ.2 H3 M3 st3 S3.dom
        by_cases hlt : i < ds.length
        · obtain ⟨d, hd⟩ : ∃ d, ds[i]? = some d := ⟨ds[i], List.getElem?_eq_getElem hlt⟩
          obtain ⟨go, yl⟩ := hgo i d hd
          have ed : ds.drop i = d :: ds.drop (i + 1) := by
            rw [List.drop_eq_getElem_cons hlt]
            have := List.getElem?_eq_getElem hlt
            rw [hd] at this
            rw [Option.some.inj this]
          rw [ed] at hL
          have hL : ((g d ρ3).bind fun ρ1 => (tt ρ1).bind fun t => if t.1 = true then
              (elt t.2).bind fun x => (lcL T g tt elt (ds.drop (i + 1)) (wipeS x.2 T)).bind fun y => .ok (x.1 :: y.1, y.2)
            else lcL T g tt elt (ds.drop (i + 1)) (wipeS t.2 T)) = .ok (rest, ρf) := hL
          refine .inr ⟨go, fun H' => ∃ M2 ρ2 acc out rest, SR K τ F H' M2 (L2.wipe σ T) ρ2 ∧ M2 Dd ∧ H' Dd = some (.lst acc) ∧ RepL K H' M2 acc out ∧ (∀ j, ¬ OwnAt H' (L2.wipe σ T) ρ2 j Dd) ∧ Step H1 M1 H' M2 ∧ i + 1 ≤ ds.length ∧ acc.length ≤ i + 1 ∧
              lcL T g tt elt (ds.drop (i + 1)) ρ2 = .ok (rest, ρf) ∧ out ++ rest = total,
            fun H' ⟨a1, a2, a3, a4, a5, b1, b2, b3, b4, b5, b6, b7, b8, b9, b10⟩ => ⟨ds.length - (i + 1), by omega, a1, a2, a3, a4, a5, b1, b2, b3, b4, b5, b6, b7, b8, rfl, b9, b10⟩, fun x H4 hy => ?_⟩
          obtain ⟨n4, r4⟩ := yl x H4 hy
          have S4 := S3.new n4
          have st4 : Step H3 M3 H4 M3 := n4.step
          have e4 : H4 Dd = some (.lst acc) := n4 _ _ hacc
          have hnD : ¬ F.M0 Dd := n2
          refine ⟨_, M3, ρ3, d, S4.inner m3 fun j z => no3 j (S3.ownNew n4 z), r4, ?_⟩
          cases q1 : g d ρ3 with
          | bad => rw [q1] at hL; cases hL
          | exc c p => rw [q1] at hL; cases hL
          | ok ρ4 =>
            rw [q1, R.bind_ok] at hL
            intro σ5 H5 M5 k5 S5 st5
            have hw : L2.wipe σ5 T = L2.wipe σ T := k5.wipe
            refine ⟨hw, _, M5, ρ4, S5, ?_⟩
            cases q2 : tt ρ4 with
            | bad => rw [q2] at hL; cases hL
            | exc c p => rw [q2] at hL; cases hL
            | ok t =>
              obtain ⟨b, ρ5⟩ := t
              rw [q2, R.bind_ok] at hL
              intro H6 M6 S6 st6
              cases b with
              | false =>
                rw [if_neg Bool.false_ne_true]
                have hL : lcL T g tt elt (ds.drop (i + 1)) (wipeS ρ5 T) = .ok (rest, ρf) := hL
                obtain ⟨S7, m7, e7, no7⟩ := S4.outer hnD S6
                obtain ⟨S8, b8⟩ := S7.wipe T
                rw [hw] at S8 b8
                have stt := (st4.trans st5).trans st6
                exact ⟨M6, wipeS ρ5 T, acc, out, rest, S8, m7, e7.trans e4, racc.to stt, fun j z => no7 j (b8 j _ z), st3.trans stt, hlt, Nat.le_succ_of_le hai, hL, ht⟩
              | true =>
                rw [if_pos rfl]
                have hL : ((elt ρ5).bind fun x => (lcL T g tt elt (ds.drop (i + 1)) (wipeS x.2 T)).bind fun y => .ok (x.1 :: y.1, y.2)) = .ok (rest, ρf) := hL
                refine ⟨_, M6, ρ5, S6, ?_⟩
                cases q3 : elt ρ5 with
                | bad => rw [q3] at hL; cases hL
                | exc c p => rw [q3] at hL; cases hL
                | ok z =>
                  obtain ⟨dz, ρ6⟩ := z
                  rw [q3, R.bind_ok] at hL
                  intro v H7 M7 r7 S7 st7
                  have hL : ((lcL T g tt elt (ds.drop (i + 1)) (wipeS ρ6 T)).bind fun y => R.ok (dz :: y.1, y.2)) = .ok (rest, ρf) := hL
                  cases q4 : lcL T g tt elt (ds.drop (i + 1)) (wipeS ρ6 T) with
                  | bad => rw [q4] at hL; cases hL
                  | exc c p => rw [q4] at hL; cases hL
                  | ok w =>
                    obtain ⟨rest', ρf'⟩ := w
                    rw [q4] at hL
                    have e1 : dz :: rest' = rest ∧ ρf' = ρf := by
                      have := R.ok.inj hL
                      exact ⟨congrArg Prod.fst this, congrArg Prod.snd this⟩
                    obtain ⟨S8, m8, e8, no8⟩ := S4.outer hnD S7
                    have eD : H7 Dd = some (.lst acc) := e8.trans e4
                    have hlen : acc.length < sizeLine := Nat.lt_of_lt_of_le (Nat.lt_of_le_of_lt hai hlt) hJ.1
                    obtain ⟨S9, st9, bk9⟩ := S8.poke (vs' := acc ++ [v]) m8 hnD eD no8
                    obtain ⟨S10, b10⟩ := S9.wipe T
                    rw [hw] at S10 b10
                    have stt := ((st4.trans st5).trans st6).trans st7
                    refine ⟨acc, eD, hlen, M7, wipeS ρ6 T, acc ++ [v], out ++ [dz], rest', S10, m8, upd_same, ((racc.to stt).append (.cons r7 .nil)).to st9, fun j z => no8 j (bk9 j _ (b10 j _ z)), (st3.trans stt).trans st9, hlt, by rw [List.length_append]; exact Nat.succ_le_succ hai, by rw [q4, e1.2], ?_⟩
                    rw [List.append_assoc, List.singleton_append, e1.1]; exact ht
        · have e : i = ds.length := by omega
          subst e
          rw [List.drop_length] at hL
          have hL : R.ok (([] : List D), ρ3) = .ok (rest, ρf) := hL
          have e1 : rest = [] ∧ ρ3 = ρf := by
            have := R.ok.inj hL
            exact ⟨(congrArg Prod.fst this).symm, congrArg Prod.snd this⟩
          obtain ⟨e1, e2⟩ := e1
          subst e1 e2
          rw [List.append_nil] at ht
          subst ht
          refine .inl ⟨hst, h Dd H3 ?_⟩
          have st0 : Step H3 M3 (fun b => if b = Dd then none else H3 b) (fun b => M3 b ∧ b ≠ Dd) := fun a o f => by
            have ha : a ≠ Dd := by
              intro e
              rw [e] at f
              have q := f.1
              rw [hacc] at q
              have q' := Option.some.inj q
              subst q'
              exact f.2.2 True.intro m3
            exact ⟨by show (if a = Dd then none else H3 a) = some o; rw [if_neg ha]; exact f.1, f.2.1, fun m z => f.2.2 m z.1⟩
          have at_ : ∀ a, a ≠ Dd → (fun b => if b = Dd then none else H3 b) a = H3 a := fun a ha => if_neg ha
          have sl := fun j => S3.slSame (M' := fun b => M3 b ∧ b ≠ Dd) st0 (fun b q => ⟨S3.sub b q, fun e => n2 (e ▸ q)⟩) j fun b q => ⟨at_ b fun e => no3 j (e ▸ q), .inl ⟨S3.ownM q, fun e => no3 j (e ▸ q)⟩⟩
          have hl3 : ρ3.length = σ.length := S3.len.trans wipe_len
          have hl1 : ρ1.length = σ.length := S1.len
          refine ⟨_, _, acc, ⟨S3.io, fun a q => ⟨S3.sub a q, fun e => n2 (e ▸ q)⟩, fun a q => by show (if a = Dd then none else H3 a) ≠ none; rw [if_neg q.2]; exact S3.dom a q.1, S3.keep.trans st0, fun a h1 h2 => (at_ a (fun e => n2 (e ▸ h1))).trans (S3.rest a h1 h2), by rw [back_len]; exact hl3, fun j => ?_, fun j k a hj hk => ?_, tabs_del S3.tab hacc⟩, if_pos rfl, fun a o e => ?_, hacc, racc.to st0, (st1.trans st3).trans st0⟩
          · by_cases hj : j ∈ T
            · by_cases hb : j < ρ3.length
              · rw [back_in hj hb]
                have s1 := S1.sl j
                have hb1 : j < ρ1.length := by omega
                have eg : ρ1.getD j .no = ρ1[j] := by rw [List.getD_eq_getElem?_getD, List.getElem?_eq_getElem hb1]; rfl
                rw [List.getElem?_eq_getElem hb1] at s1
                rw [eg]
                have no := List.all_eq_true.mp hT j hj
                rw [List.getElem?_eq_getElem hb1] at no
                generalize hx : σ[j]? = sx at s1 ⊢
                generalize hy : ρ1[j] = sy at s1 no ⊢
                cases s1 with
                | no => exact .no
                | va r => exact .va (r.to (st3.trans st0))
                | sc r => exact .sc (r.to (st3.trans st0))
                | fn h => exact .fn h
                | ow _ _ _ => exact absurd (show false = true from no) (by decide)
                | dc _ _ _ => exact absurd (show false = true from no) (by decide)
                | ne _ => exact absurd (show false = true from no) (by decide)
                | bo _ _ _ => exact absurd (show false = true from no) (by decide)
              · rw [List.getElem?_eq_none (l := back ρ1 ρ3 T) (by rw [back_len]; omega)]; exact .nil
            · rw [back_out hj]
              have s3 := (sl j).1
              rw [wipe_out hj] at s3
              exact s3
          · have bk : ∀ {j : Nat}, OwnAt (fun b => if b = Dd then none else H3 b) σ (back ρ1 ρ3 T) j a → OwnAt H3 (L2.wipe σ T) ρ3 j a := fun {j} ⟨b, x, h1, h2, h3⟩ => by
              by_cases hj : j ∈ T
              · by_cases hb : j < ρ3.length
                · rw [back_in hj hb] at h2
                  have hb1 : j < ρ1.length := by omega
                  have eg : ρ1.getD j .no = ρ1[j] := by rw [List.getD_eq_getElem?_getD, List.getElem?_eq_getElem hb1]; rfl
                  have no := List.all_eq_true.mp hT j hj
                  rw [List.getElem?_eq_getElem hb1] at no
                  rw [eg] at h2
                  have ex : ρ1[j] = x := Option.some.inj h2
                  rw [ex] at no
                  have no' : (!x.own) = true := no
                  rw [Sl.owns_own h3] at no'
                  cases no'
                · rw [List.getElem?_eq_none (by rw [back_len]; omega)] at h2; cases h2
              · rw [back_out hj] at h2
                exact (sl j).2 a ⟨b, x, by rw [wipe_out hj]; exact h1, h2, h3⟩
            exact S3.apart j k a (bk hj) (bk hk)
          · have e : (if a = Dd then none else H3 a) = some o := e
            by_cases ha : a = Dd
            · rw [if_pos ha] at e; cases e
            · rw [if_neg ha] at e; exact e
    · rw [if_neg hT] at h; exact h.elim
end
end MP

namespace MP
open PySem PySem.Spec PyProof.Rows L2

/-! ### what is walked -/
def iSeq (K : PySem.W.Frag) (tl : TE) : TI := fun σ H R => tl σ H fun x H1 => ∃ a, x = .ref a ∧ ((∃ xs, SqL K H1 a xs ∧ (xs.length ≤ sizeLine → R (Itl K a) H1)) ∨ (∃ xs, SqT K H1 a xs ∧ (xs.length ≤ sizeLine → R (Itt K a) H1)))
theorem pi_seq {X : Cx} {tg l : Expr} {tl : TE} (hl : PE X l tl) : PI X tg l (iSeq X.K tl) := by
  refine ⟨fun pins s σ H R I h => ?_⟩
  refine thn (hl.run pins s σ H _ I h) fun v s1 ⟨x, H1, I1, r1, q1⟩ => ?_
  obtain ⟨a, e, q⟩ := q1
  subst e
  cases r1
  rcases q with ⟨xs, hq, q⟩ | ⟨xs, hq, q⟩
  · obtain ⟨its, rv, p, hz⟩ := I1.list hq
    refine wpAny_pyIter_list p.isList ?_
    refine ⟨s1.heap.objs.size, [s1.heap.objs.size], _, _, H1, rfl, I1.kept (t' := s1.toks) fun b o e => Heap.get?_push_of_some _ e, turn_list a _, ⟨_, Heap.get?_push_size _ rfl, rfl, rfl⟩, fun b hb => ?_, q hz⟩
    have e : b = s1.heap.objs.size := by simpa using hb
    subst e
    exact I1.fpOk (Nat.le_refl _) (I1.hok.fresh (Nat.le_refl _))
  · obtain ⟨its, rv, p, hz⟩ := I1.tuple hq
    refine wpAny_pyIter_tuple (show s1.heap.IsTuple a its.toArray from p) ?_
    refine ⟨s1.heap.objs.size, [s1.heap.objs.size], _, _, H1, rfl, I1.kept (t' := s1.toks) fun b o e => Heap.get?_push_of_some _ e, turn_tuple a _, ⟨_, Heap.get?_push_size _ rfl, rfl, rfl⟩, fun b hb => ?_, q hz⟩
    have e : b = s1.heap.objs.size := by simpa using hb
    subst e
    exact I1.fpOk (Nat.le_refl _) (I1.hok.fresh (Nat.le_refl _))
def room (n : Nat) : Bool := decide (n ≤ 16777216)
theorem room_le {n : Nat} (h : room n = true) : n ≤ sizeLine := by rw [sizeLine_eq]; exact of_decide_eq_true h
/-- a list's, a tuple's items -/
def itV (f : Ex) : Ei := fun ρ => (f ρ).bind fun x => match x.1 with
  | .lst ds => .ok (ds, x.2)
  | .tup ds => .ok (ds, x.2)
  | _ => .bad
def rgOk (lo hi : Int) : Bool := decide (-1000000 ≤ lo) && decide (lo ≤ 1000000) && decide (-1000000 ≤ hi) && decide (hi ≤ 1000000)
theorem rgOk_iff {lo hi : Int} : rgOk lo hi = true ↔ -1000000 ≤ lo ∧ lo ≤ 1000000 ∧ -1000000 ≤ hi ∧ hi ≤ 1000000 := by
  unfold rgOk; simp only [Bool.and_eq_true, decide_eq_true_eq, and_assoc]
def rng (lo hi : Int) : List D := (List.range (hi - lo).toNat).map fun i => D.int (lo + (i : Nat))
def ints1 : List D → Option (List D)
  | [.int n] => if rgOk 0 n = true then some (rng 0 n) else none
  | _ => none
def ints2 : List D → Option (List D)
  | [.int lo, .int hi] => if rgOk lo hi = true then some (rng lo hi) else none
  | _ => none
def itR (g : List D → Option (List D)) (fs : Ea) : Ei := fun ρ => (fs ρ).bind fun x => (ofO ((resL x.2 x.1).bind g)).bind fun ds => .ok (ds, x.2)
section
variable {K : PySem.W.Frag} {τ : LTab} {Wi Wi' : WiT} {F : Fr} {H H' : Hp} {M M' : Addr → Prop} {σ : L2.St} {ρ : Store} {ds : List D} {T : List Nat}
theorem itOk_list {a : Addr} {vs : List V} (f : Fx H M a (.lst vs)) (r : RepL K H M vs ds) (hz : vs.length ≤ sizeLine) : ItOk K (Itl K a) H M ds := by
  refine ⟨by rw [← r.length]; exact hz, fun H2 M2 st dom => ?_⟩
  have f2 := st _ _ f
  have r2 := r.to st
  refine ⟨fun i d hd => ?_, ⟨vs, SqL.ofFx f2, by rw [r.length]; exact Nat.le_refl _⟩⟩
  obtain ⟨v, hv, rv⟩ := r2.get hd
  refine ⟨⟨vs, v, SqL.ofFx f2, hv⟩, fun x H3 hy => ?_⟩
  obtain ⟨e, hy⟩ := hy
  subst e
  have e2 := hy vs (SqL.ofFx f2)
  rw [hv] at e2
  cases e2
  exact ⟨New.refl, rv⟩
theorem itOk_tup {a : Addr} {vs : List V} (f : Fx H M a (.tup vs) ∨ KTup K a vs) (r : RepL K H M vs ds) (hz : vs.length ≤ sizeLine) : ItOk K (Itt K a) H M ds := by
  refine ⟨by rw [← r.length]; exact hz, fun H2 M2 st dom => ?_⟩
  have f2 := f.imp (st _ _) id
  have r2 := r.to st
  refine ⟨fun i d hd => ?_, ⟨vs, SqT.ofFx f2, by rw [r.length]; exact Nat.le_refl _⟩⟩
  obtain ⟨v, hv, rv⟩ := r2.get hd
  refine ⟨⟨vs, v, SqT.ofFx f2, hv⟩, fun x H3 hy => ?_⟩
  obtain ⟨e, hy⟩ := hy
  subst e
  have e2 := hy vs (SqT.ofFx f2)
  rw [hv] at e2
  cases e2
  exact ⟨New.refl, rv⟩
theorem itOk_range {lo : Int} {n : Nat} (hn : n ≤ sizeLine) : ItOk K (Itr lo n) H M ((List.range n).map fun i => D.int (lo + (i : Nat))) := by
  refine ⟨by simpa using hn, fun H2 M2 st dom => ⟨fun i d hd => ?_, by show n ≤ List.length _; simp⟩⟩
  rw [List.getElem?_map] at hd
  by_cases hi : i < n
  · rw [List.getElem?_range hi] at hd
    cases hd
    refine ⟨hi, fun x H3 hy => ?_⟩
    obtain ⟨e, ex⟩ := hy
    subst e; subst ex
    exact ⟨New.refl, .int _⟩
  · rw [List.getElem?_eq_none (by simpa using hi)] at hd
    cases hd
theorem ints1_some {as ds : List D} (h : ints1 as = some ds) : ∃ n, as = [.int n] ∧ rgOk 0 n = true ∧ ds = rng 0 n := by
  unfold ints1 at h
  split at h
  · rename_i n
    by_cases hr : rgOk 0 n = true
    · rw [if_pos hr] at h; exact ⟨n, rfl, hr, (Option.some.inj h).symm⟩
    · rw [if_neg hr] at h; cases h
  · cases h
theorem ints2_some {as ds : List D} (h : ints2 as = some ds) : ∃ lo hi, as = [.int lo, .int hi] ∧ rgOk lo hi = true ∧ ds = rng lo hi := by
  unfold ints2 at h
  split at h
  · rename_i lo hi
    by_cases hr : rgOk lo hi = true
    · rw [if_pos hr] at h; exact ⟨lo, hi, rfl, hr, (Option.some.inj h).symm⟩
    · rw [if_neg hr] at h; cases h
  · cases h
theorem t_itV {f : Ex} {Rr : It → Hp → Prop} (h : tOfI K τ Wi (itV f) σ H Rr) : iSeq K (tOf K τ Wi f) σ H Rr := by
  obtain ⟨F, M, ρ, S, h⟩ := h
  refine ⟨F, M, ρ, S, ?_⟩
  unfold itV at h
  cases q : f ρ with
  | bad => rw [q] at h; exact h
  | exc c p => rw [q] at h; exact h
  | ok x =>
    obtain ⟨d, ρ1⟩ := x
    rw [q, R.bind_ok] at h
    refine fun v H1 M1 r1 S1 st1 => ?_
    cases r1 with
    | @tup a vs ds f1 r1 => exact ⟨a, rfl, .inr ⟨vs, SqT.ofFx f1, fun hz => h _ H1 M1 (itOk_tup f1 r1 hz) S1 st1⟩⟩
    | @lst a vs ds f1 r1 => exact ⟨a, rfl, .inl ⟨vs, SqL.ofFx f1, fun hz => h _ H1 M1 (itOk_list f1 r1 hz) S1 st1⟩⟩
    | _ => exact h.elim
theorem RepML.int1 {vs : List V} {n : Int} (h : RepML K H M vs [.int n]) : vs = [.int n] := by
  cases h with
  | cons h1 h2 =>
    cases h2
    rcases h1 with q | ⟨a, _, q⟩
    · cases q; rfl
    · cases q
theorem RepM.int {v : V} {n : Int} (h : RepM K H M v (.int n)) : v = .int n := by
  rcases h with q | ⟨a, _, q⟩
  · cases q; rfl
  · cases q
theorem RepML.int2 {vs : List V} {n m : Int} (h : RepML K H M vs [.int n, .int m]) : vs = [.int n, .int m] := by
  cases h with
  | cons h1 h2 =>
    rw [RepM.int h1, RepML.int1 h2]
theorem t_itR1 {fs : Ea} {Rr : It → Hp → Prop} (h : tOfI K τ Wi (itR ints1 fs) σ H Rr) : iRng1 (tOfA K τ Wi fs) σ H Rr := by
  obtain ⟨F, M, ρ, S, h⟩ := h
  refine ⟨F, M, ρ, S, ?_⟩
  unfold itR at h
  cases q : fs ρ with
  | bad => rw [q] at h; exact h
  | exc c p => rw [q] at h; exact h
  | ok x =>
    obtain ⟨os, ρ1⟩ := x
    rw [q, R.bind_ok] at h
    refine fun vs H1 M1 r1 S1 st1 => ?_
    cases q3 : MP.resL ρ1 os with
    | none => rw [q3] at h; exact h.elim
    | some as =>
      rw [q3, Option.bind_some] at h
      have rs := S1.resL r1 q3
      cases q5 : ints1 as with
      | none => rw [q5] at h; exact h.elim
      | some ds =>
        rw [q5] at h
        obtain ⟨n, ea, hr, ed⟩ := ints1_some q5
        subst ea ed
        have hb := rgOk_iff.mp hr
        have e : (n - 0).toNat = n.toNat := by omega
        exact ⟨n, rs.int1, by omega, by omega, h _ H1 M1 (by unfold rng; rw [e]; exact itOk_range (by rw [sizeLine_eq]; omega)) S1 st1⟩
theorem t_itR2 {fs : Ea} {Rr : It → Hp → Prop} (h : tOfI K τ Wi (itR ints2 fs) σ H Rr) : iRng2 (tOfA K τ Wi fs) σ H Rr := by
  obtain ⟨F, M, ρ, S, h⟩ := h
  refine ⟨F, M, ρ, S, ?_⟩
  unfold itR at h
  cases q : fs ρ with
  | bad => rw [q] at h; exact h
  | exc c p => rw [q] at h; exact h
  | ok x =>
    obtain ⟨os, ρ1⟩ := x
    rw [q, R.bind_ok] at h
    refine fun vs H1 M1 r1 S1 st1 => ?_
    cases q3 : MP.resL ρ1 os with
    | none => rw [q3] at h; exact h.elim
    | some as =>
      rw [q3, Option.bind_some] at h
      have rs := S1.resL r1 q3
      cases q5 : ints2 as with
      | none => rw [q5] at h; exact h.elim
      | some ds =>
        rw [q5] at h
        obtain ⟨lo, hi, ea, hr, ed⟩ := ints2_some q5
        subst ea ed
        have hb := rgOk_iff.mp hr
        exact ⟨lo, hi, rs.int2, ⟨by omega, by omega, by omega, by omega⟩, h _ H1 M1 (itOk_range (by rw [sizeLine_eq]; omega)) S1 st1⟩

/-! ### a list changed by its methods -/
def upOwn (ρ : Store) (i : Nat) (k : List D → Option (List D)) : R Store := match ρ[i]? with
  | some (.ow (.lst ds)) => (ofO (k ds)).bind fun ds' => .ok (ρ.set i (.ow (.lst ds')))
  | some (.bo (.lst ds)) => (ofO (k ds)).bind fun ds' => .ok (ρ.set i (.bo (.lst ds')))
  | _ => .bad
/-- an owned slot's list is changed to what k tells -/
theorem SR.up {i : Nat} {k : List D → Option (List D)} {ρ' : Store} {ov : V} (S : SR K τ F H M σ ρ) (e : upOwn ρ i k = .ok ρ') (h0 : σ[i]? = some (some ov)) :
    ∃ a vs ds ds', ov = .ref a ∧ H a = some (.lst vs) ∧ RepL K H M vs ds ∧ k ds = some ds' ∧ ∀ vs', RepL K H M vs' ds' → SR K τ F (upd H a (.lst vs')) M σ ρ' ∧ Step H M (upd H a (.lst vs')) M := by
  have go : ∀ (y : Sl) (ds : List D) (mk : D → Sl), ρ[i]? = some y → y = mk (.lst ds) → (mk = Sl.ow ∨ mk = Sl.bo) → ((ofO (k ds)).bind fun ds' => R.ok (ρ.set i (mk (.lst ds')))) = .ok ρ' →
      ∃ a vs ds ds', ov = .ref a ∧ H a = some (.lst vs) ∧ RepL K H M vs ds ∧ k ds = some ds' ∧ ∀ vs', RepL K H M vs' ds' → SR K τ F (upd H a (.lst vs')) M σ ρ' ∧ Step H M (upd H a (.lst vs')) M := by
    intro y ds mk hy ey hmk e
    cases q4 : k ds with
    | none => rw [q4] at e; cases e
    | some ds' =>
      rw [q4] at e
      have e' : ρ.set i (mk (.lst ds')) = ρ' := R.ok.inj e
      obtain ⟨a, vs, e1, e2, rv, hm⟩ := S.at (ds := ds) hy (by rcases hmk with e | e <;> subst e <;> subst ey <;> first | exact .inl rfl | exact .inr rfl)
      rw [e1] at h0
      have eov : ov = .ref a := (Option.some.inj (Option.some.inj h0)).symm
      refine ⟨a, vs, ds, ds', eov, e2, rv, q4, fun vs' r' => ?_⟩
      rw [← e']
      exact S.write (vs' := vs') (ds := ds) (ds' := ds') (x := y) e1 hy (by rcases hmk with e | e <;> subst e <;> subst ey <;> first | exact .inl ⟨rfl, rfl⟩ | exact .inr ⟨rfl, rfl⟩) r'
  unfold upOwn at e
  cases q5 : ρ[i]? with
  | none => rw [q5] at e; cases e
  | some y =>
    rw [q5] at e
    cases y with
    | no => cases e
    | va d => cases e
    | sc d => cases e
    | dc d _ => cases e
    | fn d => cases e
    | ne d _ => cases e
    | ow d0 =>
      cases d0 with
      | lst ds => exact go _ ds .ow q5 rfl (.inl rfl) e
      | _ => cases e
    | bo d0 =>
      cases d0 with
      | lst ds => exact go _ ds .bo q5 rfl (.inr rfl) e
      | _ => cases e
theorem upOwn_noexc {i : Nat} {k : List D → Option (List D)} {c : Str} {p : D} : upOwn ρ i k ≠ .exc c p := by
  intro e
  unfold upOwn at e
  split at e
  · rename_i ds _
    cases q : k ds <;> rw [q] at e <;> cases e
  · rename_i ds _
    cases q : k ds <;> rw [q] at e <;> cases e
  · cases e
/-- a slot that holds an owned list -/
def pkL (i : Nat) (ρ : Store) : R Store := match ρ[i]? with
  | some (.ow (.lst _)) => .ok ρ
  | some (.bo (.lst _)) => .ok ρ
  | _ => .bad
theorem SR.pkL {i : Nat} {ρ' : Store} (S : SR K τ F H M σ ρ) (q : MP.pkL i ρ = .ok ρ') : ρ' = ρ ∧ ∃ a vs, σ[i]? = some (some (.ref a)) ∧ H a = some (.lst vs) := by
  unfold MP.pkL at q
  split at q
  · rename_i ds e
    cases q
    obtain ⟨a, vs, h1, h2, _⟩ := S.at e (.inl rfl)
    exact ⟨rfl, a, vs, h1, h2⟩
  · rename_i ds e
    cases q
    obtain ⟨a, vs, h1, h2, _⟩ := S.at e (.inr rfl)
    exact ⟨rfl, a, vs, h1, h2⟩
  · cases q
theorem pkL_noexc {i : Nat} {c : Str} {p : D} : pkL i ρ ≠ .exc c p := by
  intro e
  unfold pkL at e
  split at e <;> cases e
theorem tyList {a : Addr} {vs : List V} (h : H a = some (.lst vs)) : tyV K "list" (.ref a) H := .inl ⟨rfl, _, SqL.of h⟩
/-- slot.append(f) -/
def mApp (i : Nat) (f : Ex) : Ex := fun ρ => (pkL i ρ).bind fun ρ0 => (f ρ0).bind fun x => (upOwn x.2 i fun ds => if ds.length < 16777216 then some (ds ++ [x.1]) else none).bind fun ρ' => .ok (.non, ρ')
theorem t_mApp {i : Nat} {f : Ex} {Q : VK} (h : tOf K τ Wi (mApp i f) σ H Q) : tBM K "list" rAppend (tVar i) (tCons (tOf K τ Wi f) tNil) σ H Q := by
  obtain ⟨F, M, ρ, S, h⟩ := h
  unfold mApp at h
  cases q0 : pkL i ρ with
  | bad => rw [q0] at h; exact h.elim
  | exc c p => exact absurd q0 pkL_noexc
  | ok o =>
    obtain ⟨eo, a, vs, hv, ha⟩ := S.pkL q0
    subst eo
    rw [q0, R.bind_ok] at h
    refine ⟨.ref a, hv, tyList ha, F, M, o, S, ?_⟩
    cases q1 : f o with
    | bad => rw [q1] at h; exact h
    | exc c p => rw [q1] at h; exact h
    | ok x =>
      obtain ⟨d, ρ1⟩ := x
      rw [q1, R.bind_ok] at h
      refine fun v H1 M1 r1 S1 st1 => ?_
      have h : (match (upOwn ρ1 i fun ds => if ds.length < 16777216 then some (ds ++ [d]) else none).bind fun ρ' => R.ok (D.non, ρ') with
        | .bad => False
        | .exc c p => Wi F c p
        | .ok (d, ρ') => ∀ v H' M', Rep K H' M' v d → SR K τ F H' M' σ ρ' → Step H M H' M' → Q v H') := h
      cases q2 : upOwn ρ1 i fun ds => if ds.length < 16777216 then some (ds ++ [d]) else none with
      | bad => rw [q2] at h; exact h.elim
      | exc c p => exact absurd q2 upOwn_noexc
      | ok ρ2 =>
        rw [q2] at h
        obtain ⟨a', vs', ds, ds', ea, ha', rv, hk, wr⟩ := S1.up q2 hv
        by_cases hl : ds.length < 16777216
        · rw [if_pos hl] at hk
          cases hk
          obtain ⟨S2, st2⟩ := wr (vs' ++ [v]) (rv.append (.cons r1 .nil))
          exact ⟨a', vs', v, ea, rfl, ha', by rw [rv.length, sizeLine_eq]; exact hl, h .non _ M1 .non S2 (st1.trans st2)⟩
        · rw [if_neg hl] at hk; cases hk
/-- slot.pop() -/
def mPop (i : Nat) : Ex := fun ρ => (pkL i ρ).bind fun ρ0 => match (ρ0[i]?).bind Sl.con with
  | some (.lst ds) => (ofO ds.getLast?).bind fun d => (upOwn ρ0 i fun ds => some ds.dropLast).bind fun ρ' => .ok (d, ρ')
  | _ => .bad
theorem RepL.dropLast : ∀ {vs : List V} {ds : List D}, RepL K H M vs ds → RepL K H M vs.dropLast ds.dropLast
  | _, _, .nil => .nil
  | _, _, .cons _ .nil => .nil
  | _, _, .cons h (.cons h2 t) => .cons h (RepL.dropLast (.cons h2 t))
theorem t_mPop {i : Nat} {Q : VK} (h : tOf K τ Wi (mPop i) σ H Q) : tBM0 K "list" rPop (tVar i) σ H Q := by
  obtain ⟨F, M, ρ, S, h⟩ := h
  unfold mPop at h
  cases q0 : pkL i ρ with
  | bad => rw [q0] at h; exact h.elim
  | exc c p => exact absurd q0 pkL_noexc
  | ok o =>
    obtain ⟨eo, a, vs, hv, ha⟩ := S.pkL q0
    subst eo
    rw [q0, R.bind_ok] at h
    refine ⟨.ref a, hv, tyList ha, ?_⟩
    have go : ∀ (y : Sl) (ds : List D) (mk : D → Sl), o[i]? = some y → y = mk (.lst ds) → (mk = Sl.ow ∨ mk = Sl.bo) → rPop (.ref a) [] H Q := by
      intro y ds mk hy ey hmk
      have hc : y.con = some (.lst ds) := by rcases hmk with e | e <;> subst e <;> subst ey <;> rfl
      rw [hy, Option.bind_some, hc] at h
      have h : (match ((ofO ds.getLast?).bind fun d => (upOwn o i fun ds => some ds.dropLast).bind fun ρ' => R.ok (d, ρ')) with
        | .bad => False
        | .exc c p => Wi F c p
        | .ok (d, ρ') => ∀ v H' M', Rep K H' M' v d → SR K τ F H' M' σ ρ' → Step H M H' M' → Q v H') := h
      cases q1 : ds.getLast? with
      | none => rw [q1] at h; exact h.elim
      | some d =>
        rw [q1, ofO_some, R.bind_ok] at h
        cases q2 : upOwn o i fun ds => some ds.dropLast with
        | bad => rw [q2] at h; exact h.elim
        | exc c p => exact absurd q2 upOwn_noexc
        | ok ρ2 =>
          rw [q2] at h
          obtain ⟨a1, vs1, e1, e2, rv, hm⟩ := S.at (ds := ds) hy (by rcases hmk with e | e <;> subst e <;> subst ey <;> first | exact .inl rfl | exact .inr rfl)
          obtain ⟨a', vs', ds0, ds', ea, ha', rv', hk, wr⟩ := S.up q2 hv
          cases hk
          cases ea
          rw [e1] at hv
          cases hv
          rw [e2] at ha'
          cases ha'
          obtain ⟨S2, st2⟩ := wr vs1.dropLast rv'.dropLast
          have hd : ds[ds.length - 1]? = some d := by rw [← List.getLast?_eq_getElem?]; exact q1
          obtain ⟨v, hv1, r1⟩ := rv.get hd
          exact ⟨a, vs1, v, rfl, rfl, e2, by rw [rv.length]; exact hv1, h v _ M (r1.to st2) S2 st2⟩
    unfold pkL at q0
    split at q0
    · rename_i ds e
      exact go _ ds .ow e rfl (.inl rfl)
    · rename_i ds e
      exact go _ ds .bo e rfl (.inr rfl)
    · cases q0
/-- slot.insert(f, g) -/
def mIns (i : Nat) (f g : Ex) : Ex := fun ρ => (pkL i ρ).bind fun ρ0 => (f ρ0).bind fun y => (g y.2).bind fun x => match y.1 with
  | .int k => (upOwn x.2 i fun ds => if ds.length < 16777216 ∧ 0 ≤ k ∧ k ≤ ds.length then some (ds.take k.toNat ++ x.1 :: ds.drop k.toNat) else none).bind fun ρ' => .ok (.non, ρ')
  | _ => .bad
theorem SR.pk {i : Nat} {o : Opd × Store} (S : SR K τ F H M σ ρ) (q : MP.pk i ρ = .ok o) : o = (.inl i, ρ) ∧ ∃ v, σ[i]? = some (some v) := by
  have s := S.sl i
  unfold MP.pk at q
  cases q1 : ρ[i]? with
  | none => rw [q1] at q; cases q
  | some x =>
    rw [q1] at q s
    generalize hx : σ[i]? = sx at s
    cases s with
    | no => cases q
    | va r => cases q; exact ⟨rfl, _, rfl⟩
    | sc _ => cases q
    | dc _ _ _ => cases q
    | fn _ => cases q
    | ne _ => cases q
    | ow _ _ _ => cases q; exact ⟨rfl, _, rfl⟩
    | bo _ _ _ => cases q; exact ⟨rfl, _, rfl⟩
theorem pk_noexc {i : Nat} {c : Str} {p : D} : pk i ρ ≠ .exc c p := by
  intro e
  unfold pk at e
  split at e <;> cases e
/-- slot op= f, ints -/
def sAug (i : Nat) (g : Int → Int → Int) (f : Ex) : Es := fun ρ => (pk i ρ).thenS fun o => (f o.2).thenS fun x => match (x.2[i]?), x.1 with
  | some (.va (.int a)), .int b => .next (x.2.set i (.va (.int (g a b))))
  | _, _ => .bad
theorem t_sAug {i : Nat} {g : Int → Int → Int} {f : Ex} {E : Ends} (h : tOfS K τ Wi (sAug i g f) E σ H) : tAug i (tOf K τ Wi f) (ipI g) E σ H := by
  obtain ⟨F, M, ρ, S, h⟩ := h
  have h : PostS K τ Wi F E H M (sAug i g f ρ) := h
  unfold sAug at h
  cases q0 : pk i ρ with
  | bad => rw [q0] at h; exact h.elim
  | exc c p => exact absurd q0 pk_noexc
  | ok o =>
    obtain ⟨eo, v, hv⟩ := S.pk q0
    subst eo
    rw [q0, R.thenS_ok] at h
    refine ⟨v, hv, F, M, ρ, S, ?_⟩
    cases q1 : f ρ with
    | bad => rw [q1] at h; exact h
    | exc c p => rw [q1] at h; exact h
    | ok x =>
      obtain ⟨d, ρ1⟩ := x
      rw [q1, R.thenS_ok] at h
      refine fun u H1 M1 r1 S1 st1 => ?_
      dsimp only at h
      cases e1 : ρ1[i]? with
      | none => rw [e1] at h; exact h.elim
      | some y =>
        rw [e1] at h
        cases y with
        | va d0 =>
          cases d0 with
          | int a =>
            cases r1 with
            | int b =>
              have s := S1.sl i
              rw [e1, hv] at s
              cases s with
              | va r =>
                cases r
                exact ⟨a, b, rfl, rfl, h _ H1 M1 (S1.setVa (.int _)) st1⟩
            | _ => exact h.elim
          | _ => exact h.elim
        | _ => exact h.elim
theorem t_mIns {i : Nat} {f g : Ex} {Q : VK} (h : tOf K τ Wi (mIns i f g) σ H Q) : tBM K "list" (fun x vs H Q => ∃ (l : Addr) (xs : List V) (i : Int) (y : V), x = .ref l ∧ vs = [.int i, y] ∧ H l = some (.lst xs) ∧ xs.length < sizeLine ∧ 0 ≤ i ∧ i < 2 ^ 63 ∧
    Q .non (upd H l (.lst (xs.take i.toNat ++ [y] ++ xs.drop i.toNat)))) (tVar i) (tCons (tOf K τ Wi f) (tCons (tOf K τ Wi g) tNil)) σ H Q := by
  obtain ⟨F, M, ρ, S, h⟩ := h
  unfold mIns at h
  cases q0 : pkL i ρ with
  | bad => rw [q0] at h; exact h.elim
  | exc c p => exact absurd q0 pkL_noexc
  | ok o =>
    obtain ⟨eo, a, vs, hv, ha⟩ := S.pkL q0
    subst eo
    rw [q0, R.bind_ok] at h
    refine ⟨.ref a, hv, tyList ha, F, M, o, S, ?_⟩
    cases q1 : f o with
    | bad => rw [q1] at h; exact h
    | exc c p => rw [q1] at h; exact h
    | ok y =>
      obtain ⟨dk, ρ1⟩ := y
      rw [q1, R.bind_ok] at h
      refine fun u H1 M1 r1 S1 st1 => ⟨F, M1, ρ1, S1, ?_⟩
      have h : (match ((g ρ1).bind fun x => match dk with
          | .int k => (upOwn x.2 i fun ds => if ds.length < 16777216 ∧ 0 ≤ k ∧ k ≤ ds.length then some (ds.take k.toNat ++ x.1 :: ds.drop k.toNat) else none).bind fun ρ' => .ok (.non, ρ')
          | _ => .bad) with
        | .bad => False
        | .exc c p => Wi F c p
        | .ok (d, ρ') => ∀ v H' M', Rep K H' M' v d → SR K τ F H' M' σ ρ' → Step H M H' M' → Q v H') := h
      cases q3 : g ρ1 with
      | bad => rw [q3] at h; exact h
      | exc c p => rw [q3] at h; exact h
      | ok x =>
        obtain ⟨d, ρ2⟩ := x
        rw [q3, R.bind_ok] at h
        refine fun v H2 M2 r2 S2 st2 => ?_
        cases r1 with
        | int k =>
          have h : (match (upOwn ρ2 i fun ds => if ds.length < 16777216 ∧ 0 ≤ k ∧ k ≤ ds.length then some (ds.take k.toNat ++ d :: ds.drop k.toNat) else none).bind fun ρ' => R.ok (D.non, ρ') with
            | .bad => False
            | .exc c p => Wi F c p
            | .ok (d, ρ') => ∀ v H' M', Rep K H' M' v d → SR K τ F H' M' σ ρ' → Step H M H' M' → Q v H') := h
          cases q2 : upOwn ρ2 i fun ds => if ds.length < 16777216 ∧ 0 ≤ k ∧ k ≤ ds.length then some (ds.take k.toNat ++ d :: ds.drop k.toNat) else none with
          | bad => rw [q2] at h; exact h.elim
          | exc c p => exact absurd q2 upOwn_noexc
          | ok ρ3 =>
            rw [q2] at h
            obtain ⟨a', vs', ds, ds', ea, ha', rv, hk, wr⟩ := S2.up q2 hv
            by_cases hl : ds.length < 16777216 ∧ 0 ≤ k ∧ k ≤ ds.length
            · rw [if_pos hl] at hk
              cases hk
              obtain ⟨S3, st3⟩ := wr (vs'.take k.toNat ++ [v] ++ vs'.drop k.toNat) (by
                rw [List.append_assoc, List.singleton_append]
                exact (rv.take _).append (.cons r2 (rv.drop _)))
              exact ⟨a', vs', k, v, ea, rfl, ha', by rw [rv.length, sizeLine_eq]; exact hl.1, hl.2.1, by omega, h .non _ M2 .non S3 ((st1.trans st2).trans st3)⟩
            · rw [if_neg hl] at hk; cases hk
        | _ => exact h.elim

/-! ### defs -/
inductive Out where
  | ret (d : D) (io : Option D) | exc (c : Str) (p : D) | bad
/-- an error as it lies behind a raise -/
def ExcAt (mg : Str → Option Value) (K : PySem.W.Frag) (H : Hp) (M : Addr → Prop) (c : Str) (p : D) (cls : Value) (dx : Option Addr) : Prop :=
  ∃ C a fs v, cls = .ref C ∧ mg c = some (.ref C) ∧ dx = some a ∧ H a = some (.xd fs) ∧ fs.lookup ("place" : Str) = some v ∧ Rep K H M v p
def WiOf (mg : Str → Option Value) (K : PySem.W.Frag) (τ : LTab) (W : WX) : WiT := fun F c p => ∀ cls dx σ H M, ExcAt mg K H M c p cls dx → Step F.H0 F.M1 H M → (∀ a, F.M0 a → M a) → (∀ a, F.M0 a → ¬ F.io a → H a = F.H0 a) → Tabs τ H → W cls dx σ H
def mkS (io : Option Nat) : Nat → List D → Store
  | _, [] => []
  | i, d :: ds => (if io = some i then .bo d else .va d) :: mkS io (i + 1) ds
def startS (n : Nat) (io : Option Nat) (ds : List D) : Store := mkS io 0 ds ++ List.replicate (n - ds.length) .no
def outOf (io : Option Nat) (d : D) (ρ : Store) : Out := match io with
  | none => .ret d none
  | some i => match ρ[i]? with
    | some (.bo d') => .ret d (some d')
    | _ => .bad
/-- a def's meaning by its body: nN slots, n parameters -/
def defSem (B : Es) (nN n : Nat) (io : Option Nat) (ds : List D) : Out :=
  if ds.length = n then match B (startS nN io ds) with
    | .ret d ρ => outOf io d ρ
    | .next ρ => outOf io .non ρ
    | .exc c p => if io = none then .exc c p else .bad
    | _ => .bad
  else .bad
def ArgsR (K : PySem.W.Frag) (H : Hp) (M : Addr → Prop) (io : Option Nat) (vs : List V) (ds : List D) : Prop :=
  vs.length = ds.length ∧ ∀ (i : Nat) (v : V) (d : D), vs[i]? = some v → ds[i]? = some d → (io = some i → ∃ a, v = .ref a ∧ M a ∧ OwnR K H M a d) ∧ (io ≠ some i → Rep K H M v d)
/-- what a def promises: its meaning Fn -/
def spF (mg : Str → Option Value) (K : PySem.W.Frag) (τ : LTab) (n : Nat) (io : Option Nat) (Fn : List D → Out) : Sp := fun vs H Q E => vs.length = n ∧ ∃ M ds, ArgsR K H M io vs ds ∧ (∀ a, M a → H a ≠ none) ∧ TabM τ H M ∧ match Fn ds with
  | .bad => False
  | .exc c p => ∀ cls dx H' M', ExcAt mg K H' M' c p cls dx → Step H M H' M' → (∀ a, M a → M' a) → (∀ a, M a → (∀ i, io = some i → vs[i]? ≠ some (.ref a)) → H' a = H a) → Tabs τ H' → E cls dx H'
  | .ret d o => ∀ v H', Rep K H' M v d → Step H M H' M → (∀ a, M a → (∀ i, io = some i → vs[i]? ≠ some (.ref a)) → H' a = H a) →
      (∀ i a, io = some i → vs[i]? = some (.ref a) → ∃ d', o = some d' ∧ OwnR K H' M a d') → Tabs τ H' → Q v H'
theorem mkS_len : ∀ {io : Option Nat} {i : Nat} {ds : List D}, (mkS io i ds).length = ds.length
  | _, _, [] => rfl
  | _, _, _ :: _ => congrArg (· + 1) mkS_len
theorem mkS_get : ∀ {io : Option Nat} {i j : Nat} {ds : List D}, (mkS io i ds)[j]? = (ds[j]?).map fun d => if io = some (i + j) then Sl.bo d else Sl.va d
  | _, _, _, [] => by simp [mkS]
  | io, i, 0, d :: ds => by simp [mkS]
  | io, i, j + 1, d :: ds => by
    show (mkS io (i + 1) ds)[j]? = _
    rw [mkS_get, show i + 1 + j = i + (j + 1) by omega]
    rfl
theorem sr_start {N : List Str} {n : Nat} {io : Option Nat} {vs : List V} {ds : List D} (hn : n ≤ N.length) (hl : vs.length = n) (ar : ArgsR K H M io vs ds) (dom : ∀ a, M a → H a ≠ none) (tb : TabM τ H M) :
    SR K τ ⟨M, M, H, fun a => ∃ i, io = some i ∧ vs[i]? = some (.ref a) ∧ M a⟩ H M (L2.start N vs) (startS N.length io ds) := by
  have hd : ds.length = n := ar.1.symm.trans hl
  have gσ : ∀ j, j < n → (L2.start N vs)[j]? = (vs[j]?).map some := fun j hj => by
    unfold L2.start
    rw [List.getElem?_append_left (by rw [List.length_map]; omega), List.getElem?_map]
  have gρ : ∀ j, j < n → (startS N.length io ds)[j]? = (ds[j]?).map fun d => if io = some j then Sl.bo d else Sl.va d := fun j hj => by
    unfold startS
    rw [List.getElem?_append_left (by rw [mkS_len]; omega), mkS_get, Nat.zero_add]
  have gρ2 : ∀ j, ¬ j < n → j < N.length → (startS N.length io ds)[j]? = some .no := fun j hj hN => by
    unfold startS
    rw [List.getElem?_append_right (by rw [mkS_len]; omega), List.getElem?_replicate, mkS_len, if_pos (by omega)]
  have lρ : (startS N.length io ds).length = N.length := by
    unfold startS
    rw [List.length_append, mkS_len, List.length_replicate]; omega
  have lσ : (L2.start N vs).length = N.length := by
    unfold L2.start
    rw [List.length_append, List.length_map, List.length_replicate]; omega
  refine ⟨fun a ⟨i, _, _, m⟩ => m, fun _ m => m, dom, Step.refl, fun _ _ _ => rfl, lρ.trans lσ.symm, fun j => ?_, fun j k a hj hk => ?_, tb⟩
  · by_cases hj : j < n
    · rw [gσ j hj, gρ j hj]
      obtain ⟨v, hv⟩ : ∃ v, vs[j]? = some v := ⟨_, List.getElem?_eq_getElem (by omega)⟩
      obtain ⟨d, hd'⟩ : ∃ d, ds[j]? = some d := ⟨_, List.getElem?_eq_getElem (by omega)⟩
      rw [hv, hd']
      obtain ⟨a1, a2⟩ := ar.2 j v d hv hd'
      by_cases hio : io = some j
      · obtain ⟨a, e, m, o⟩ := a1 hio
        subst e
        show SlR K _ H M (some (some (.ref a))) (some (if io = some j then Sl.bo d else Sl.va d))
        rw [if_pos hio]
        exact .bo m ⟨j, hio, hv, m⟩ o
      · show SlR K _ H M (some (some v)) (some (if io = some j then Sl.bo d else Sl.va d))
        rw [if_neg hio]
        exact .va (a2 hio)
    · by_cases hN : j < N.length
      · rw [gρ2 j hj hN]; exact .no
      · rw [List.getElem?_eq_none (l := startS N.length io ds) (by omega)]; exact .nil
  · have one : ∀ {j : Nat}, OwnAt H (L2.start N vs) (startS N.length io ds) j a → io = some j := fun {j} ⟨_, x, _, h2, h3⟩ => by
      by_cases hj : j < n
      · rw [gρ j hj] at h2
        obtain ⟨d, hd'⟩ : ∃ d, ds[j]? = some d := ⟨_, List.getElem?_eq_getElem (by omega)⟩
        rw [hd'] at h2
        by_cases hio : io = some j
        · exact hio
        · have e : (if io = some j then Sl.bo d else Sl.va d) = x := Option.some.inj h2
          rw [if_neg hio] at e
          subst e
          exact h3.elim
      · by_cases hN : j < N.length
        · rw [gρ2 j hj hN] at h2
          cases h2
          exact h3.elim
        · rw [List.getElem?_eq_none (by omega)] at h2; cases h2
    exact Option.some.inj ((one hj).symm.trans (one hk))
end
end MP

namespace MP
open PySem PySem.Spec PyProof.Rows L2

/-! ### a def called -/
def ioS (Fn : List D → Out) (os : List Opd) (i j : Nat) (d0 : D) (mk : D → Sl) (ρ : Store) : R (D × Store) :=
  (ofO (vals (os.set i (.inr d0)))).bind fun ds => match Fn ds with
    | .ret d (some d') => .ok (d, ρ.set j (mk d'))
    | _ => .bad
def callS (io : Option Nat) (Fn : List D → Out) (os : List Opd) (ρ : Store) : R (D × Store) := match io with
  | none => (ofO (vals os)).bind fun ds => match Fn ds with
    | .ret d _ => .ok (d, ρ)
    | .exc c p => .exc c p
    | .bad => .bad
  | some i => match os[i]? with
    | some (.inl j) => match ρ[j]? with
      | some (.ow d0) => ioS Fn os i j d0 .ow ρ
      | some (.bo d0) => ioS Fn os i j d0 .bo ρ
      | _ => .bad
    | _ => .bad
def eCall (io : Option Nat) (Fn : List D → Out) (fs : Ea) : Ex := fun ρ => (fs ρ).bind fun x => callS io Fn x.1 x.2

section
variable {K : PySem.W.Frag} {τ : LTab} {Wi Wi' : WiT} {F : Fr} {H H' : Hp} {M M' : Addr → Prop} {σ : L2.St} {ρ : Store} {ds : List D} {T : List Nat}
theorem OpdL.length : ∀ {vs : List V} {os : List Opd}, OpdL K H M σ vs os → vs.length = os.length
  | _, _, .nil => rfl
  | _, _, .cons _ t => congrArg (· + 1) (OpdL.length t)
theorem OpdL.get : ∀ {vs : List V} {os : List Opd} {i : Nat} {v : V} {o : Opd}, OpdL K H M σ vs os → vs[i]? = some v → os[i]? = some o → OpdR K H M σ v o
  | _, _, _, _, _, .nil, h, _ => by simp at h
  | _, _, 0, _, _, .cons r _, h1, h2 => by simp at h1 h2; subst h1; subst h2; exact r
  | _, _, i + 1, _, _, .cons _ t, h1, h2 => OpdL.get (i := i) t (by simpa using h1) (by simpa using h2)
/-- behind a call: what may be changed is as it was -/
theorem SR.same (S : SR K τ F H M σ ρ) (st : Step H M H' M) (e : ∀ a, M a → H' a = H a) (tb : Tabs τ H') : SR K τ F H' M σ ρ := by
  have sl := fun j => S.slSame (M' := M) st S.sub j fun b q => ⟨e b (S.ownM q), .inl (S.ownM q)⟩
  refine ⟨S.io, S.sub, fun a m => by rw [e a m]; exact S.dom a m, S.keep.trans st, fun a h1 h2 => (e a (S.sub a h1)).trans (S.rest a h1 h2), S.len, fun j => (sl j).1, fun i j b h1 h2 => S.apart i j b ((sl i).2 b h1) ((sl j).2 b h2), S.tab.same e tb⟩
/-- .. but for one owned slot -/
theorem SR.lent {j : Nat} {a : Addr} {x x' : Sl} {d d' : D} (S : SR K τ F H M σ ρ) (hσ : σ[j]? = some (some (.ref a))) (hρ : ρ[j]? = some x) (hx : (x = .ow d ∧ x' = .ow d') ∨ (x = .bo d ∧ x' = .bo d'))
    (st : Step H M H' M) (e : ∀ b, M b → b ≠ a → H' b = H b) (o : OwnR K H' M a d') (tb : Tabs τ H') : SR K τ F H' M σ (ρ.set j x') := by
  have own : x.own = true := by rcases hx with ⟨e, _⟩ | ⟨e, _⟩ <;> subst e <;> rfl
  have si := S.sl j
  rw [hσ, hρ] at si
  have ha : M a ∧ (F.M0 a → F.io a) := by
    rcases hx with ⟨e, _⟩ | ⟨e, _⟩ <;> subst e
    · cases si with
      | ow h1 h2 h3 => exact ⟨h1, fun z => absurd z h2⟩
    · cases si with
      | bo h1 h2 h3 => exact ⟨S.sub _ h1, fun _ => h2⟩
  obtain ⟨hm, hio⟩ := ha
  have hj : j < ρ.length := (List.getElem?_eq_some_iff.mp hρ).1
  have sl := fun k (hk : k ≠ j) => S.slSame (M' := M) st S.sub k fun b q => ⟨e b (S.ownM q) fun z => hk (S.apart k j a (z ▸ q) (.top hσ hρ own)), .inl (S.ownM q)⟩
  refine ⟨S.io, S.sub, fun b m => ?_, S.keep.trans st, fun b h1 h2 => ?_, by rw [List.length_set]; exact S.len, fun k => ?_, fun k l b hk hl => ?_, ⟨tb, fun b m => if hb : b = a then by (rw [hb]; cases o with | lst q _ => exact ⟨_, q, True.intro⟩) else by (rw [e b m hb]; exact S.tab.2 b m)⟩⟩
  · by_cases hb : b = a
    · rw [hb]; cases o with | lst q _ => rw [q]; exact fun z => nomatch z
    · rw [e b m hb]; exact S.dom b m
  · have hb : b ≠ a := fun z => h2 (z ▸ hio (z ▸ h1))
    exact (e b (S.sub b h1) hb).trans (S.rest b h1 h2)
  · by_cases hk : k = j
    · subst hk
      rw [List.getElem?_set_self hj, hσ]
      rcases hx with ⟨e, e'⟩ | ⟨e, e'⟩ <;> subst e <;> subst e'
      · cases si with | ow h1 h2 h3 => exact .ow h1 h2 o
      · cases si with | bo h1 h2 h3 => exact .bo h1 h2 o
    · rw [List.getElem?_set_ne (Ne.symm hk)]
      exact (sl k hk).1
  · have back : ∀ {k : Nat} {b : Addr}, OwnAt H' σ (ρ.set j x') k b → OwnAt H σ ρ k b := fun {k b} h => by
      rcases h.set1 with ⟨hk, h⟩ | ⟨hk, c, e1, h⟩
      · exact (sl k hk).2 b h
      · rw [hσ] at e1
        cases e1
        have e2 : b = a := by rcases hx with ⟨_, e2⟩ | ⟨_, e2⟩ <;> subst e2 <;> exact h
        rw [hk, e2]
        exact .top hσ hρ own
    exact S.apart k l b (back hk) (back hl)
theorem args_none {vs : List V} {os : List Opd} (r : OpdL K H M σ vs os) (e : vals os = some ds) : ArgsR K H M none vs ds := by
  have rl := RepML.reps r (vals_eq e)
  exact ⟨rl.length, fun i v d hv hd => ⟨(fun z => by cases z), fun _ => by
    obtain ⟨v', hv', rv⟩ := rl.get hd
    rw [hv] at hv'
    cases hv'
    exact rv⟩⟩
theorem args_some {vs : List V} {os : List Opd} {i j : Nat} {a : Addr} {d0 : D} (r : OpdL K H M σ vs os) (hi : os[i]? = some (.inl j)) (hv : vs[i]? = some (.ref a)) (hm : M a) (o : OwnR K H M a d0) (e : vals (os.set i (.inr d0)) = some ds) :
    ArgsR K H M (some i) vs ds ∧ ds[i]? = some d0 := by
  have eq := vals_eq e
  have hl : os.length = ds.length := by
    have := congrArg List.length eq
    rw [List.length_set, List.length_map] at this
    exact this
  have hio : i < os.length := (List.getElem?_eq_some_iff.mp hi).1
  have at_ : ∀ k, k ≠ i → os[k]? = (ds[k]?).map Sum.inr := fun k hk => by
    have := congrArg (fun l => l[k]?) eq
    simp only [List.getElem?_map] at this
    rw [List.getElem?_set_ne (Ne.symm hk)] at this
    exact this
  have ati : ds[i]? = some d0 := by
    have := congrArg (fun l => l[i]?) eq
    simp only [List.getElem?_map] at this
    rw [List.getElem?_set_self hio] at this
    cases q : ds[i]? with
    | none => rw [q] at this; cases this
    | some d => rw [q] at this; cases this; rfl
  refine ⟨⟨r.length.trans hl, fun k v d hkv hkd => ⟨fun z => ?_, fun z => ?_⟩⟩, ati⟩
  · cases z
    rw [hv] at hkv; rw [ati] at hkd
    cases hkv; cases hkd
    exact ⟨a, rfl, hm, o⟩
  · have hk : k ≠ i := fun e => z (by rw [e])
    have hok := at_ k hk
    rw [hkd] at hok
    exact r.get hkv hok
theorem t_eCall {mg : Str → Option Value} {W : WX} {n : Nat} {io : Option Nat} {Fn : List D → Out} {fs : Ea} {Q : VK} (hn : ∀ ds, Fn ds ≠ .bad → ds.length = n) (h : tOf K τ (WiOf mg K τ W) (eCall io Fn fs) σ H Q) :
    tCall (spF mg K τ n io Fn) [] (fun cls d H => ∀ σ', W cls d σ' H) (tOfA K τ (WiOf mg K τ W) fs) σ H Q := by
  obtain ⟨F, M, ρ, S, h⟩ := h
  refine ⟨F, M, ρ, S, ?_⟩
  unfold eCall at h
  cases q : fs ρ with
  | bad => rw [q] at h; exact h
  | exc c p => rw [q] at h; exact h
  | ok x =>
    obtain ⟨os, ρ1⟩ := x
    rw [q, R.bind_ok] at h
    refine fun vs H1 M1 r1 S1 st1 => ?_
    show spF mg K τ n io Fn (vs ++ []) H1 Q _
    rw [List.append_nil]
    cases io with
    | none =>
      have h : (match ((ofO (vals os)).bind fun ds => match Fn ds with
          | .ret d _ => R.ok (d, ρ1)
          | .exc c p => .exc c p
          | .bad => .bad) with
        | .bad => False
        | .exc c p => WiOf mg K τ W F c p
        | .ok (d, ρ') => ∀ v H' M', Rep K H' M' v d → SR K τ F H' M' σ ρ' → Step H M H' M' → Q v H') := h
      cases q1 : vals os with
      | none => rw [q1] at h; exact h.elim
      | some ds =>
        rw [q1, ofO_some, R.bind_ok] at h
        have ar := args_none r1 q1
        cases q2 : Fn ds with
        | bad => rw [q2] at h; exact h.elim
        | exc c p =>
          rw [q2] at h
          have h : WiOf mg K τ W F c p := h
          refine ⟨ar.1.trans (hn ds (by rw [q2]; exact fun z => nomatch z)), M1, ds, ar, S1.dom, S1.tab, ?_⟩
          rw [q2]
          exact fun cls dx H' M' ea st sub e tb σ' => h cls dx σ' H' M' ea (S1.keep.trans st) (fun a z => sub a (S1.sub a z)) (fun a z1 z2 => (e a (S1.sub a z1) (fun _ z => by cases z)).trans (S1.rest a z1 z2)) tb
        | ret d o =>
          rw [q2] at h
          refine ⟨ar.1.trans (hn ds (by rw [q2]; exact fun z => nomatch z)), M1, ds, ar, S1.dom, S1.tab, ?_⟩
          rw [q2]
          exact fun v H' rv st e _ tb => h v H' M1 rv (S1.same st (fun a m => e a m (fun _ z => by cases z)) tb) (st1.trans st)
    | some i =>
      have h : (match (match os[i]? with
          | some (.inl j) => match ρ1[j]? with
            | some (.ow d0) => ioS Fn os i j d0 .ow ρ1
            | some (.bo d0) => ioS Fn os i j d0 .bo ρ1
            | _ => .bad
          | _ => .bad) with
        | .bad => False
        | .exc c p => WiOf mg K τ W F c p
        | .ok (d, ρ') => ∀ v H' M', Rep K H' M' v d → SR K τ F H' M' σ ρ' → Step H M H' M' → Q v H') := h
      cases qi : os[i]? with
      | none => rw [qi] at h; exact h.elim
      | some o =>
        rw [qi] at h
        cases o with
        | inr d => exact h.elim
        | inl j =>
          have hvi : i < vs.length := by rw [r1.length]; exact (List.getElem?_eq_some_iff.mp qi).1
          obtain ⟨v0, hv0⟩ : ∃ v, vs[i]? = some v := ⟨_, List.getElem?_eq_getElem hvi⟩
          have hσ : σ[j]? = some (some v0) := r1.get hv0 qi
          have go : ∀ (y : Sl) (d0 : D) (mk : D → Sl), ρ1[j]? = some y → y = mk d0 → (mk = Sl.ow ∨ mk = Sl.bo) → (match ioS Fn os i j d0 mk ρ1 with
              | .bad => False
              | .exc c p => WiOf mg K τ W F c p
              | .ok (d, ρ') => ∀ v H' M', Rep K H' M' v d → SR K τ F H' M' σ ρ' → Step H M H' M' → Q v H') →
              spF mg K τ n (some i) Fn vs H1 Q (fun cls d H => ∀ σ', W cls d σ' H) := by
            intro y d0 mk hy ey hmk h
            unfold ioS at h
            cases q1 : vals (os.set i (.inr d0)) with
            | none => rw [q1] at h; exact h.elim
            | some ds =>
              rw [q1, ofO_some, R.bind_ok] at h
              have s := S1.sl j
              rw [hσ, hy] at s
              obtain ⟨a, ev, hm, ow⟩ : ∃ a, v0 = .ref a ∧ M1 a ∧ OwnR K H1 M1 a d0 := by
                rcases hmk with e | e <;> subst e <;> subst ey
                · cases s with | ow h1 h2 h3 => exact ⟨_, rfl, h1, h3⟩
                · cases s with | bo h1 h2 h3 => exact ⟨_, rfl, S1.sub _ h1, h3⟩
              subst ev
              obtain ⟨ar, _⟩ := args_some r1 qi hv0 hm ow q1
              cases q2 : Fn ds with
              | bad => rw [q2] at h; exact h.elim
              | exc c p => rw [q2] at h; exact h.elim
              | ret d o =>
                rw [q2] at h
                cases o with
                | none => exact h.elim
                | some d' =>
                  refine ⟨ar.1.trans (hn ds (by rw [q2]; exact fun z => nomatch z)), M1, ds, ar, S1.dom, S1.tab, ?_⟩
                  rw [q2]
                  refine fun v H' rv st e eo tb => ?_
                  obtain ⟨d2, e2, o2⟩ := eo i a rfl hv0
                  cases e2
                  refine h v H' M1 rv (S1.lent (d := d0) (d' := d') hσ hy (by rcases hmk with e | e <;> subst e <;> subst ey <;> first | exact .inl ⟨rfl, rfl⟩ | exact .inr ⟨rfl, rfl⟩) st (fun b m hb => e b m fun i' z1 z2 => ?_) o2 tb) (st1.trans st)
                  cases z1
                  rw [hv0] at z2
                  cases z2
                  exact hb rfl
          dsimp only at h
          cases qj : ρ1[j]? with
          | none => rw [qj] at h; exact h.elim
          | some y =>
            rw [qj] at h
            cases y with
            | ow d0 => exact go _ d0 .ow qj rfl (.inl rfl) h
            | bo d0 => exact go _ d0 .bo qj rfl (.inr rfl) h
            | _ => exact h.elim
end
theorem defSem_len {B : Es} {nN n : Nat} {io : Option Nat} {ds : List D} (h : defSem B nN n io ds ≠ .bad) : ds.length = n := by
  unfold defSem at h
  by_cases e : ds.length = n
  · exact e
  · rw [if_neg e] at h; exact absurd rfl h
/-- a def's body keeps its meaning -/
theorem fn_rest {K : PySem.W.Frag} {mg : Str → Option Value} {scope : Scope} {N ps : List Str} {B : Es} {io : Option Nat} {vs : List V} {H : Hp} {Q : VK} {E : XK} (S : FnScope N ps scope) (h : spF mg K τ ps.length io (defSem B N.length ps.length io) vs H Q E) :
    tOfS K τ (WiOf mg K τ fun cls d _ H => E cls d H) B { nx := fun _ H' => Q .non H', rt := Q } (start N vs) H := by
  obtain ⟨hl, M, ds, ar, dom, tb, h⟩ := h
  refine ⟨⟨M, M, H, fun a => ∃ i, io = some i ∧ vs[i]? = some (.ref a) ∧ M a⟩, M, startS N.length io ds, ?_⟩
  have hN : ps.length ≤ N.length := by have := congrArg List.length S.pre; rw [List.length_take] at this; omega
  refine ⟨sr_start hN hl ar dom tb, ?_⟩
  unfold defSem at h
  rw [if_pos (ar.1.symm.trans hl)] at h
  have fin : ∀ (d : D) (ρ' : Store), (match outOf io d ρ' with
      | .bad => False
      | .exc c p => ∀ cls dx H' M', ExcAt mg K H' M' c p cls dx → Step H M H' M' → (∀ a, M a → M' a) → (∀ a, M a → (∀ i, io = some i → vs[i]? ≠ some (.ref a)) → H' a = H a) → Tabs τ H' → E cls dx H'
      | .ret d o => ∀ v H', Rep K H' M v d → Step H M H' M → (∀ a, M a → (∀ i, io = some i → vs[i]? ≠ some (.ref a)) → H' a = H a) →
          (∀ i a, io = some i → vs[i]? = some (.ref a) → ∃ d', o = some d' ∧ OwnR K H' M a d') → Tabs τ H' → Q v H') →
      ∀ v σ' H' M', Rep K H' M' v d → SR K τ ⟨M, M, H, fun a => ∃ i, io = some i ∧ vs[i]? = some (.ref a) ∧ M a⟩ H' M' σ' ρ' → Step H M H' M' → Q v H' := by
    intro d ρ' h v σ' H' M' rv S' st
    have less : Step H' M' H' M := Step.less S'.sub
    have rest : ∀ a, M a → (∀ i, io = some i → vs[i]? ≠ some (.ref a)) → H' a = H a := fun a m z => S'.rest a m fun ⟨i, e1, e2, _⟩ => z i e1 e2
    cases io with
    | none => exact h v H' (rv.to less) (st.trans less) rest (fun _ _ z => by cases z) S'.tab.1
    | some i =>
      have h : (match (match ρ'[i]? with
          | some (.bo d') => Out.ret d (some d')
          | _ => .bad) with
        | .bad => False
        | .exc c p => ∀ cls dx H' M', ExcAt mg K H' M' c p cls dx → Step H M H' M' → (∀ a, M a → M' a) → (∀ a, M a → (∀ j, some i = some j → vs[j]? ≠ some (.ref a)) → H' a = H a) → Tabs τ H' → E cls dx H'
        | .ret d o => ∀ v H', Rep K H' M v d → Step H M H' M → (∀ a, M a → (∀ j, some i = some j → vs[j]? ≠ some (.ref a)) → H' a = H a) →
            (∀ j a, some i = some j → vs[j]? = some (.ref a) → ∃ d', o = some d' ∧ OwnR K H' M a d') → Tabs τ H' → Q v H') := h
      cases q : ρ'[i]? with
      | none => rw [q] at h; exact h.elim
      | some y =>
        rw [q] at h
        cases y with
        | bo d' =>
          refine h v H' (rv.to less) (st.trans less) rest (fun j a e1 e2 => ⟨d', rfl, ?_⟩) S'.tab.1
          cases e1
          have s := S'.sl i
          rw [q] at s
          generalize hx : σ'[i]? = sx at s
          cases s with
          | bo h1 h2 h3 =>
            obtain ⟨i', e3, e4, _⟩ := h2
            cases e3
            rw [e2] at e4
            cases e4
            exact h3.to less rfl
        | _ => exact h.elim
  cases q : B (startS N.length io ds) with
  | bad => rw [q] at h; exact h.elim
  | brk ρ' => rw [q] at h; exact h.elim
  | cnt ρ' => rw [q] at h; exact h.elim
  | ret d ρ' => rw [q] at h; exact fin d ρ' h
  | next ρ' => rw [q] at h; exact fun σ' H' M' S' st => fin .non ρ' h .non σ' H' M' .non S' st
  | exc c p =>
    rw [q] at h
    have h : (match (if io = none then Out.exc c p else .bad) with
      | .bad => False
      | .exc c p => ∀ cls dx H' M', ExcAt mg K H' M' c p cls dx → Step H M H' M' → (∀ a, M a → M' a) → (∀ a, M a → (∀ i, io = some i → vs[i]? ≠ some (.ref a)) → H' a = H a) → Tabs τ H' → E cls dx H'
      | .ret d o => ∀ v H', Rep K H' M v d → Step H M H' M → (∀ a, M a → (∀ i, io = some i → vs[i]? ≠ some (.ref a)) → H' a = H a) →
          (∀ i a, io = some i → vs[i]? = some (.ref a) → ∃ d', o = some d' ∧ OwnR K H' M a d') → Tabs τ H' → Q v H') := h
    by_cases hio : io = none
    · rw [if_pos hio] at h
      exact fun cls dx σ H2 M2 ea keep sub rest tb => h cls dx H2 M2 ea keep sub (fun a m z => rest a m fun ⟨i, e1, _⟩ => by rw [hio] at e1; cases e1) tb
    · rw [if_neg hio] at h; exact h.elim
/-- THE RULE: a def keeps its meaning -/
theorem fn_ok {P : Program} {w : World} {K : PySem.W.Frag} {mg : Str → Option Value} {base : Heap} {x qual : Str} {st : Stmt} {f : Addr} {fd : FuncData} {N ps : List Str} {k : Nat} {B : Es} {io : Option Nat}
    (FF : Fun K x qual st f fd) (S : FnScope N ps (defScope st))
    (hb : ∀ (cdv : Value) (A : Around) (outer : List Env) (s : Shared) (H : Hp) (E : XK), Room k (A.deeper (envOfC qual (defScope st) s.heap.objs.size f cdv)) →
      PSs (cxOf (L2.CX P w) P w K mg base N qual (defScope st) f cdv A outer s H E) (defBody st) (tOfS K τ (WiOf mg K τ fun cls d _ H => E cls d H) B)) :
    FnOk P w K mg base (L2.CX P w) (k + 1) f fd ps (spF mg K τ ps.length io (defSem B N.length ps.length io)) :=
  FF.okX S (fun vs H Q E h => h.1) fun cdv A outer s H vs Q E hr h => ⟨_, hb cdv A outer s H E hr, fn_rest S h⟩
/-- .. its code object told -/
theorem fn_okL {P : Program} {w : World} {K : PySem.W.Frag} {mg : Str → Option Value} {base : Heap} {x qual : Str} {st : Stmt} {f : Addr} {N ps : List Str} {k : Nat} {B : Es} {io : Option Nat} {oc dV kV doc pm cdv ct : Value} {od an : Option Addr} {osl : Array (Option Value)}
    (lk : K.lookup f = some ⟨oc, od, .func (PySem.W.fnOf x qual (defArgs st) (defBody st) (defScope st) dV kV doc pm an cdv ct), osl⟩) (hcd : PySem.W.codeIn K cdv qual = true) (S : FnScope N ps (defScope st))
    (hb : ∀ (A : Around) (outer : List Env) (s : Shared) (H : Hp) (E : XK), Room k (A.deeper (envOfC qual (defScope st) s.heap.objs.size f cdv)) →
      PSs (cxOf (L2.CX P w) P w K mg base N qual (defScope st) f cdv A outer s H E) (defBody st) (tOfS K τ (WiOf mg K τ fun cls d _ H => E cls d H) B)) :
    FnOk P w K mg base (L2.CX P w) (k + 1) f (PySem.W.fnOf x qual (defArgs st) (defBody st) (defScope st) dV kV doc pm an cdv ct) ps (spF mg K τ ps.length io (defSem B N.length ps.length io)) :=
  fn_of lk hcd S (fun vs H Q E h => h.1) fun A outer s H vs Q E hr h => ⟨_, hb A outer s H E hr, fn_rest S h⟩
end MP

namespace MP
open PySem PySem.Spec PyProof.Rows L2

/-! ### results: a plain value, or a new list -/
abbrev Res := Sum D (List D)
abbrev Em := Store → R (Res × Store)
def Res.d : Res → D
  | .inl d => d
  | .inr ds => .lst ds
@[simp] theorem Res.d_inl (d : D) : Res.d (.inl d) = d := rfl
@[simp] theorem Res.d_inr (ds : List D) : Res.d (.inr ds) = .lst ds := rfl
/-- what is known of a result that stands in H' -/
def ResR (K : PySem.W.Frag) (H : Hp) (M : Addr → Prop) (z : V) (H' : Hp) : Res → Prop
  | .inl d => New H H' ∧ Rep K H' M z d
  | .inr ds => ∃ p vs, z = .ref p ∧ H p = none ∧ New H H' ∧ H' p = some (.lst vs) ∧ RepL K H M vs ds
def tOfM (K : PySem.W.Frag) (τ : LTab) (Wi : WiT) (f : Em) : TE := fun σ H Q => ∃ F M ρ, SR K τ F H M σ ρ ∧ match f ρ with
  | .bad => False
  | .exc c p => Wi F c p
  | .ok (.inl d, ρ') => ∀ v H' M', Rep K H' M' v d → SR K τ F H' M' σ ρ' → Step H M H' M' → Q v H'
  | .ok (.inr ds, ρ') => ∀ p H', NewL K τ F σ H M ρ' ds p H' → Q (.ref p) H'
def mz (f : Em) : Ex := fun ρ => (f ρ).bind fun x => .ok (Res.d x.1, x.2)
def pl (f : Ex) : Em := fun ρ => (f ρ).bind fun x => .ok (.inl x.1, x.2)
def nw (f : Ef) : Em := fun ρ => (f ρ).bind fun x => .ok (.inr x.1, x.2)
def op1M (g : D → Option Res) (f1 : Eo) : Em := fun ρ => (f1 ρ).bind fun x => (ofO ((res x.2 x.1).bind g)).bind fun d => .ok (d, x.2)
def op2M (g : D → D → Option Res) (f1 f2 : Eo) : Em := fun ρ => (f1 ρ).bind fun x => (f2 x.2).bind fun y => (ofO ((res y.2 x.1).bind fun a => (res y.2 y.1).bind fun b => g a b)).bind fun d => .ok (d, y.2)
def opNM (g : List D → Option Res) (fs : Ea) : Em := fun ρ => (fs ρ).bind fun x => (ofO ((resL x.2 x.1).bind g)).bind fun d => .ok (d, x.2)
/-- the readings of operations that keep what is there -/
def rG1 (K : PySem.W.Frag) (g : D → Option Res) : V → Hp → VK → Prop := fun x H Q => ∃ M a r, (∀ a, M a → H a ≠ none) ∧ RepM K H M x a ∧ g a = some r ∧ ∀ z H', ResR K H M z H' r → Q z H'
def rG2 (K : PySem.W.Frag) (g : D → D → Option Res) : R2 := fun x y H Q => ∃ M a b r, (∀ a, M a → H a ≠ none) ∧ RepM K H M x a ∧ RepM K H M y b ∧ g a b = some r ∧ ∀ z H', ResR K H M z H' r → Q z H'
def rGN (K : PySem.W.Frag) (g : List D → Option Res) : List V → Hp → VK → Prop := fun xs H Q => ∃ M as r, (∀ a, M a → H a ≠ none) ∧ RepML K H M xs as ∧ g as = some r ∧ ∀ z H', ResR K H M z H' r → Q z H'

section
variable {K : PySem.W.Frag} {τ : LTab} {Wi Wi' : WiT} {F : Fr} {H H' : Hp} {M M' : Addr → Prop} {σ : L2.St} {ρ : Store} {ds : List D} {T : List Nat}
theorem t_mz {f : Em} {Q : VK} (h : tOf K τ Wi (mz f) σ H Q) : tOfM K τ Wi f σ H Q := by
  obtain ⟨F, M, ρ, S, h⟩ := h
  refine ⟨F, M, ρ, S, ?_⟩
  unfold mz at h
  cases q : f ρ with
  | bad => rw [q] at h; exact h
  | exc c p => rw [q] at h; exact h
  | ok x =>
    obtain ⟨r, ρ1⟩ := x
    rw [q] at h
    cases r with
    | inl d => exact h
    | inr ds =>
      refine fun p H' nw => ?_
      obtain ⟨M', r, S', st⟩ := nw.fz
      exact h (.ref p) H' M' r S' st
theorem t_pl {f : Ex} {Q : VK} (h : tOfM K τ Wi (pl f) σ H Q) : tOf K τ Wi f σ H Q := by
  obtain ⟨F, M, ρ, S, h⟩ := h
  refine ⟨F, M, ρ, S, ?_⟩
  unfold pl at h
  cases q : f ρ with
  | bad => rw [q] at h; exact h
  | exc c p => rw [q] at h; exact h
  | ok x => rw [q] at h; exact h
theorem t_nw {f : Ef} {Q : VK} (h : tOfM K τ Wi (nw f) σ H Q) : tOfF K τ Wi f σ H Q := by
  obtain ⟨F, M, ρ, S, h⟩ := h
  refine ⟨F, M, ρ, S, ?_⟩
  unfold nw at h
  cases q : f ρ with
  | bad => rw [q] at h; exact h
  | exc c p => rw [q] at h; exact h
  | ok x => rw [q] at h; exact h
/-- from what is known of a result to what is wanted -/
theorem fin_res {Q : VK} {H1 : Hp} {M1 : Addr → Prop} {ρ1 : Store} {r : Res} (S1 : SR K τ F H1 M1 σ ρ1) (st1 : Step H M H1 M1) (h : match (R.ok (r, ρ1) : R (Res × Store)) with
    | .bad => False
    | .exc c p => Wi F c p
    | .ok (.inl d, ρ') => ∀ v H' M', Rep K H' M' v d → SR K τ F H' M' σ ρ' → Step H M H' M' → Q v H'
    | .ok (.inr ds, ρ') => ∀ p H', NewL K τ F σ H M ρ' ds p H' → Q (.ref p) H') : ∀ z H', ResR K H1 M1 z H' r → Q z H' := by
  intro z H' hr
  cases r with
  | inl d => obtain ⟨n, rz⟩ := hr; exact h z H' M1 rz (S1.new n) (st1.trans n.step)
  | inr ds =>
    obtain ⟨p, vs, e, hp, n, e2, rl⟩ := hr
    subst e
    exact h p H' ⟨H1, M1, vs, S1, hp, n, e2, rl, st1⟩
theorem t_op1M {g : D → Option Res} {f1 : Eo} {Q : VK} (h : tOfM K τ Wi (op1M g f1) σ H Q) : tUn (rG1 K g) (tOfO K τ Wi f1) σ H Q := by
  obtain ⟨F, M, ρ, S, h⟩ := h
  refine ⟨F, M, ρ, S, ?_⟩
  unfold op1M at h
  cases q : f1 ρ with
  | bad => rw [q] at h; exact h
  | exc c p => rw [q] at h; exact h
  | ok x =>
    rw [q, R.bind_ok] at h
    refine fun v H1 M1 r1 S1 st1 => ?_
    cases q3 : MP.res x.2 x.1 with
    | none => rw [q3] at h; exact h.elim
    | some a =>
      rw [q3, Option.bind_some] at h
      cases q5 : g a with
      | none => rw [q5] at h; exact h.elim
      | some d =>
        rw [q5] at h
        exact ⟨M1, a, d, S1.dom, S1.res r1 q3, q5, fin_res S1 st1 h⟩
theorem t_op2M {g : D → D → Option Res} {f1 f2 : Eo} {Q : VK} (h : tOfM K τ Wi (op2M g f1 f2) σ H Q) : tOp (rG2 K g) (tOfO K τ Wi f1) (tOfO K τ Wi f2) σ H Q := by
  obtain ⟨F, M, ρ, S, h⟩ := h
  refine ⟨F, M, ρ, S, ?_⟩
  unfold op2M at h
  cases q : f1 ρ with
  | bad => rw [q] at h; exact h
  | exc c p => rw [q] at h; exact h
  | ok x =>
    rw [q, R.bind_ok] at h
    refine fun v H1 M1 r1 S1 st1 => ⟨F, M1, x.2, S1, ?_⟩
    cases q2 : f2 x.2 with
    | bad => rw [q2] at h; exact h
    | exc c p => rw [q2] at h; exact h
    | ok y =>
      rw [q2, R.bind_ok] at h
      refine fun u H2 M2 r2 S2 st2 => ?_
      cases q3 : MP.res y.2 x.1 with
      | none => rw [q3] at h; exact h.elim
      | some a =>
        rw [q3, Option.bind_some] at h
        cases q4 : MP.res y.2 y.1 with
        | none => rw [q4] at h; exact h.elim
        | some b =>
          rw [q4, Option.bind_some] at h
          cases q5 : g a b with
          | none => rw [q5] at h; exact h.elim
          | some d =>
            rw [q5] at h
            exact ⟨M2, a, b, d, S2.dom, S2.res (r1.to st2) q3, S2.res r2 q4, q5, fin_res S2 (st1.trans st2) h⟩
theorem t_opNM {g : List D → Option Res} {fs : Ea} {Q : VK} (h : tOfM K τ Wi (opNM g fs) σ H Q) : tOfA K τ Wi fs σ H fun vs H1 => rGN K g vs H1 Q := by
  obtain ⟨F, M, ρ, S, h⟩ := h
  refine ⟨F, M, ρ, S, ?_⟩
  unfold opNM at h
  cases q : fs ρ with
  | bad => rw [q] at h; exact h
  | exc c p => rw [q] at h; exact h
  | ok x =>
    rw [q, R.bind_ok] at h
    refine fun v H1 M1 r1 S1 st1 => ?_
    cases q3 : MP.resL x.2 x.1 with
    | none => rw [q3] at h; exact h.elim
    | some a =>
      rw [q3, Option.bind_some] at h
      cases q5 : g a with
      | none => rw [q5] at h; exact h.elim
      | some d =>
        rw [q5] at h
        exact ⟨M1, a, d, S1.dom, S1.resL r1 q3, q5, fin_res S1 st1 h⟩
/-- a op b op' c over bools -/
def chnM (g g' : D → D → Option Bool) (f1 f2 f3 : Eo) : Ex := fun ρ => (f1 ρ).bind fun x => (f2 x.2).bind fun y => (ofO ((res y.2 x.1).bind fun a => (res y.2 y.1).bind fun b => g a b)).bind fun k => if k = true then
    (f3 y.2).bind fun z => (ofO ((res z.2 y.1).bind fun b => (res z.2 z.1).bind fun c => g' b c)).bind fun k' => .ok (.bl k', z.2)
  else .ok (.bl false, y.2)
def blM (g : D → D → Option Bool) : D → D → Option Res := fun a b => (g a b).map fun k => .inl (.bl k)
theorem t_chnM {g g' : D → D → Option Bool} {f1 f2 f3 : Eo} {Q : VK} (h : tOf K τ Wi (chnM g g' f1 f2 f3) σ H Q) : tChain (rG2 K (blM g)) (rG2 K (blM g')) (tOfO K τ Wi f1) (tOfO K τ Wi f2) (tOfO K τ Wi f3) σ H Q := by
  obtain ⟨F, M, ρ, S, h⟩ := h
  refine ⟨F, M, ρ, S, ?_⟩
  unfold chnM at h
  cases q : f1 ρ with
  | bad => rw [q] at h; exact h
  | exc c p => rw [q] at h; exact h
  | ok x =>
    rw [q, R.bind_ok] at h
    refine fun v H1 M1 r1 S1 st1 => ⟨F, M1, x.2, S1, ?_⟩
    cases q2 : f2 x.2 with
    | bad => rw [q2] at h; exact h
    | exc c p => rw [q2] at h; exact h
    | ok y =>
      rw [q2, R.bind_ok] at h
      refine fun u H2 M2 r2 S2 st2 => ?_
      cases q3 : MP.res y.2 x.1 with
      | none => rw [q3] at h; exact h.elim
      | some a =>
        rw [q3, Option.bind_some] at h
        cases q4 : MP.res y.2 y.1 with
        | none => rw [q4] at h; exact h.elim
        | some b =>
          rw [q4, Option.bind_some] at h
          cases q5 : g a b with
          | none => rw [q5] at h; exact h.elim
          | some k =>
            rw [q5, ofO_some, R.bind_ok] at h
            refine ⟨M2, a, b, .inl (.bl k), S2.dom, S2.res (r1.to st2) q3, S2.res r2 q4, by unfold blM; rw [q5]; rfl, fun z H3 hr => ?_⟩
            obtain ⟨n, rz⟩ := hr
            have st3 := (st1.trans st2).trans (n.step (M := M2))
            cases rz with
            | bl =>
              refine ⟨k, rfl, ?_⟩
              cases k with
              | false => exact h _ H3 M2 (.bl false) (S2.new n) st3
              | true =>
                rw [if_pos rfl]
                refine ⟨F, M2, y.2, S2.new n, ?_⟩
                rw [if_pos rfl] at h
                cases q6 : f3 y.2 with
                | bad => rw [q6] at h; exact h
                | exc c p => rw [q6] at h; exact h
                | ok w =>
                  rw [q6, R.bind_ok] at h
                  refine fun u3 H4 M4 r4 S4 st4 => ?_
                  cases q7 : MP.res w.2 y.1 with
                  | none => rw [q7] at h; exact h.elim
                  | some b2 =>
                    rw [q7, Option.bind_some] at h
                    cases q8 : MP.res w.2 w.1 with
                    | none => rw [q8] at h; exact h.elim
                    | some c2 =>
                      rw [q8, Option.bind_some] at h
                      cases q9 : g' b2 c2 with
                      | none => rw [q9] at h; exact h.elim
                      | some k2 =>
                        rw [q9] at h
                        exact ⟨M4, b2, c2, .inl (.bl k2), S4.dom, S4.res ((r2.to n.step).to st4) q7, S4.res r4 q8, by unfold blM; rw [q9]; rfl, fun z H5 hr => h z H5 M4 hr.2 (S4.new hr.1) ((st3.trans st4).trans hr.1.step)⟩
/-- name = value, whichever -/
def sSetM (i : Nat) (f : Em) : Es := fun ρ => (f ρ).thenS fun x => if noBo x.2 i = true then (match x.1 with
  | .inl d => .next (x.2.set i (.va d))
  | .inr ds => .next (x.2.set i (.ow (.lst ds)))) else .bad
theorem t_sSetM {i : Nat} {f : Em} {E : Ends} (h : tOfS K τ Wi (sSetM i f) E σ H) : tAsg (tOfM K τ Wi f) (gName i) E σ H := by
  obtain ⟨F, M, ρ, S, h⟩ := PostS.of h
  refine ⟨F, M, ρ, S, ?_⟩
  unfold sSetM at h
  cases q : f ρ with
  | bad => rw [q] at h; exact h
  | exc c p => rw [q] at h; exact h
  | ok x =>
    obtain ⟨r, ρ1⟩ := x
    rw [q, R.thenS_ok] at h
    by_cases hb : noBo ρ1 i = true
    · rw [if_pos hb] at h
      cases r with
      | inl d => exact fun v H' M' r S' st => h _ H' M' (S'.setVa r) st
      | inr ds =>
        refine fun p H' nw => ?_
        obtain ⟨M', hm, hn, r, S', st, new⟩ := nw.own
        exact h _ H' M' (S'.setOw hm hn r new) st
    · rw [if_neg hb] at h; exact h.elim
end
end MP

namespace MP
open PySem PySem.Spec PyProof.Rows L2

/-! ### trees as the library's data -/
mutual
def toPy : D → PyData
  | .non => .none
  | .bl b => .bool b
  | .int i => .int i
  | .str x => .str x
  | .tup xs => .tuple (toPyL xs)
  | .lst xs => .list (toPyL xs)
def toPyL : List D → List PyData
  | [] => []
  | x :: xs => toPy x :: toPyL xs
end
theorem toPyL_map : ∀ xs : List D, toPyL xs = xs.map toPy
  | [] => by rw [toPyL]; rfl
  | x :: xs => by rw [toPyL, toPyL_map xs]; rfl
mutual
/-- how deep -/
def dep : D → Nat
  | .non => 0
  | .bl _ => 0
  | .int _ => 0
  | .str _ => 0
  | .tup xs => depL xs + 1
  | .lst xs => depL xs + 1
def depL : List D → Nat
  | [] => 0
  | x :: xs => max (dep x) (depL xs)
end
def shp (d : D) : Bool := decide (dep d ≤ 50)
theorem depInts : ∀ ns : List Int, PyData.depthAll (ns.map .int) = 0
  | [] => by rw [List.map_nil, PyData.depthAll]
  | n :: ns => by rw [List.map_cons, PyData.depthAll, depInts ns, PyData.depth]; rfl
mutual
theorem dep_py : ∀ d : D, (toPy d).depth = dep d
  | .non => by rw [toPy, dep, PyData.depth]
  | .bl b => by rw [toPy, dep, PyData.depth]
  | .int i => by rw [toPy, dep, PyData.depth]
  | .str x => by rw [toPy, dep, PyData.depth]
  | .tup xs => by rw [toPy, dep, PyData.depth, dep_pyL xs, Nat.add_comm]
  | .lst xs => by rw [toPy, dep, PyData.depth, dep_pyL xs, Nat.add_comm]
theorem dep_pyL : ∀ xs : List D, PyData.depthAll (toPyL xs) = depL xs
  | [] => by rw [toPyL, depL, PyData.depthAll]
  | x :: xs => by rw [toPyL, depL, PyData.depthAll, dep_py x, dep_pyL xs]
end
section
variable {K : PySem.W.Frag} {τ : LTab} {H : Hp} {M : Addr → Prop}
theorem dpInts : ∀ ns : List Int, DpAll K H (ns.map V.int) (ns.map PyData.int)
  | [] => .nil
  | n :: ns => .cons (.int n) (dpInts ns)
theorem SqL.ofScr {a : Addr} {ns : List Int} (h : ScR K H M a ns) : SqL K H a (ns.map V.int) :=
  h.elim (fun ⟨o, q⟩ => .inl (.inr ⟨o, q.1⟩)) (Or.elim · (fun q => .inl (.inl q.1)) .inr)
mutual
theorem Rep.dp : ∀ {d : D} {v : V}, Rep K H M v d → Dp K H v (toPy d)
  | .non, _, h => by cases h; rw [toPy]; exact .non
  | .bl b, _, h => by cases h; rw [toPy]; exact .bl b
  | .int i, _, h => by cases h; rw [toPy]; exact .int i
  | .str x, _, h => by cases h; rw [toPy]; exact .str x
  | .tup xs, _, h => by
    cases h with
    | tup h1 h2 => rw [toPy]; exact .tup (SqT.ofFx h1) (RepL.dp h2)
  | .lst xs, _, h => by
    cases h with
    | lst h1 h2 => rw [toPy]; exact .lst (SqL.ofFx h1) (RepL.dp h2)
theorem RepL.dp : ∀ {ds : List D} {vs : List V}, RepL K H M vs ds → DpAll K H vs (toPyL ds)
  | [], _, h => by cases h; rw [toPyL]; exact .nil
  | d :: ds, _, h => by
    cases h with
    | cons h1 h2 => rw [toPyL]; exact .cons (Rep.dp h1) (RepL.dp h2)
end
theorem OwnR.dp {a : Addr} {d : D} (h : OwnR K H M a d) : Dp K H (.ref a) (toPy d) := by
  cases h with
  | lst h1 h2 => rw [toPy]; exact .lst (SqL.of h1) h2.dp
theorem RepM.dp {v : V} {d : D} (h : RepM K H M v d) : Dp K H v (toPy d) := by
  rcases h with h | ⟨a, rfl, h⟩
  · exact h.dp
  · exact h.dp
theorem layInts : ∀ ns : List Int, PyData.canLayAll0 (ns.map .int) = true
  | [] => by rw [List.map_nil, PyData.canLayAll0]
  | n :: ns => by rw [List.map_cons, PyData.canLayAll0, layInts ns, PyData.canLay0]; rfl
mutual
theorem Rep.lay : ∀ {d : D} {v : V}, Rep K H M v d → (toPy d).canLay0 = true
  | .non, _, h => by rw [toPy, PyData.canLay0]
  | .bl b, _, h => by rw [toPy, PyData.canLay0]
  | .int i, _, h => by rw [toPy, PyData.canLay0]
  | .str x, _, h => by
    cases h with
    | str _ h => rw [toPy, PyData.canLay0]; exact h
  | .tup xs, _, h => by
    cases h with
    | tup h1 h2 => rw [toPy, PyData.canLay0]; exact RepL.lay h2
  | .lst xs, _, h => by
    cases h with
    | lst h1 h2 => rw [toPy, PyData.canLay0]; exact RepL.lay h2
theorem RepL.lay : ∀ {ds : List D} {vs : List V}, RepL K H M vs ds → PyData.canLayAll0 (toPyL ds) = true
  | [], _, h => by rw [toPyL, PyData.canLayAll0]
  | d :: ds, _, h => by
    cases h with
    | cons h1 h2 => rw [toPyL, PyData.canLayAll0, Rep.lay h1, RepL.lay h2]; rfl
end
theorem RepM.lay {v : V} {d : D} (h : RepM K H M v d) : (toPy d).canLay0 = true := by
  rcases h with h | ⟨a, rfl, h⟩
  · exact h.lay
  · cases h with
    | lst h1 h2 => rw [toPy, PyData.canLay0]; exact h2.lay
end
/-- Python's == -/
def eqv (a b : D) : Bool := PyData.eqv (toPy a) (toPy b)
def lsOf : D → Option (List D)
  | .lst xs => some xs
  | .tup xs => some xs
  | _ => none
def eqG (a b : D) : Option Bool := if shp a = true ∨ shp b = true then some (eqv a b) else none
def neG (a b : D) : Option Bool := (eqG a b).map (!·)
def inG (x c : D) : Option Bool := (lsOf c).bind fun xs => if shp x = true then some (xs.any fun y => eqv y x) else none
def ninG (x c : D) : Option Bool := (inG x c).map (!·)
def alk (a b : D) : Bool := PySem.W.alike (toPy a) (toPy b)
/-- a < b -/
def ltb (a b : D) : Bool := PySem.W.dataLt (toPy a) (toPy b)
def isNon : D → Bool
  | .non => true
  | _ => false
def ordG (g : D → D → Bool) (a b : D) : Option Bool := if alk a b = true ∧ isNon a = false ∧ (shp a = true ∨ shp b = true) then some (g a b) else none
def ltG : D → D → Option Bool
  | .int i, .int j => some (decide (i < j))
  | a, b => ordG ltb a b
def gtG : D → D → Option Bool
  | .int i, .int j => some (decide (j < i))
  | a, b => ordG (fun a b => ltb b a) a b
def leG : D → D → Option Bool
  | .int i, .int j => some (decide (i ≤ j))
  | a, b => ordG (fun a b => !ltb b a) a b
def geG : D → D → Option Bool
  | .int i, .int j => some (decide (j ≤ i))
  | a, b => ordG (fun a b => !ltb a b) a b
def isG : D → D → Option Bool
  | a, .non => some (isNon a)
  | .bl a, .bl b => some (decide (a = b))
  | .non, .bl _ => some false
  | _, _ => none
def nisG (a b : D) : Option Bool := (isG a b).map (!·)

section
variable {X : Cx}
theorem bl_res {K : PySem.W.Frag} {H H' : Hp} {M : Addr → Prop} {g : D → D → Option Bool} {a b : D} {r : Res} (e : blM g a b = some r) : ∃ k, g a b = some k ∧ r = .inl (.bl k) := by
  unfold blM at e
  cases q : g a b with
  | none => rw [q] at e; cases e
  | some k => rw [q] at e; cases e; exact ⟨k, rfl, rfl⟩
/-- a comparison that gives a bool -/
theorem blR {f : Value → Value → Sem Value} {g : D → D → Option Bool}
    (rule : ∀ (pins : List (Addr × Obj)) (s : Shared) (σ : L2.St) (H : Hp) (M : Addr → Prop) (x y : V) (v u : Value) (a b : D) (k : Bool) (Q : Value → Shared → Prop), Inv X pins σ H s → RelV x v → RelV y u → RepM X.K H M x a → RepM X.K H M y b → g a b = some k →
      (∀ tk, Q (.bool k) { s with toks := tk }) → Q (.bool k) s → wpAny (model X.prog X.w) X.A (f v u) Q X.xe s) : OpR X f (rG2 X.K (blM g)) := by
  intro pins s σ H x y v u Q I rx ry h
  obtain ⟨M, a, b, r, dom, ra, rb, e, h⟩ := h
  obtain ⟨k, e1, e2⟩ := bl_res (K := X.K) (H := H) (H' := H) (M := M) e
  subst e2
  have q := h (.bl k) H ⟨New.refl, .bl k⟩
  exact rule pins s σ H M x y v u a b k _ I rx ry ra rb e1 (fun tk => ⟨.bl k, H, I.tok tk, rfl, q⟩) ⟨.bl k, H, I, rfl, q⟩
theorem min_dep {a b : D} {u k : Nat} (h : shp a = true ∨ shp b = true) (hu : u + 60 < k) : u + min (toPy a).depth (toPy b).depth < k := by
  rw [dep_py, dep_py]
  have : dep a ≤ 50 ∨ dep b ≤ 50 := h.imp of_decide_eq_true of_decide_eq_true
  omega
theorem o_eq (hu : X.A.units + 60 < cLine) : OpR X (compareOp .Eq) (rG2 X.K (blM eqG)) := blR fun pins s σ H M x y v u a b k Q I rx ry ra rb e _ q => by
  unfold eqG at e
  by_cases hs : shp a = true ∨ shp b = true
  · rw [if_pos hs] at e
    cases e
    obtain ⟨as, r1⟩ := Dp.reads I _ x v ra.dp rx
    obtain ⟨bs, r2⟩ := Dp.reads I _ y u rb.dp ry
    exact SeqAt.compareEq_reads r1 r2 ra.lay rb.lay (min_dep hs hu) q
  · rw [if_neg hs] at e; cases e
theorem o_ne (hu : X.A.units + 60 < cLine) : OpR X (compareOp .NotEq) (rG2 X.K (blM neG)) := blR fun pins s σ H M x y v u a b k Q I rx ry ra rb e _ q => by
  unfold neG eqG at e
  by_cases hs : shp a = true ∨ shp b = true
  · rw [if_pos hs] at e
    cases e
    obtain ⟨as, r1⟩ := Dp.reads I _ x v ra.dp rx
    obtain ⟨bs, r2⟩ := Dp.reads I _ y u rb.dp ry
    exact SeqAt.compareNe_reads r1 r2 ra.lay rb.lay (min_dep hs hu) q
  · rw [if_neg hs] at e; cases e
theorem any_py {x : D} : ∀ xs : List D, ((toPyL xs).any fun y => PyData.eqv y (toPy x)) = xs.any fun y => eqv y x
  | [] => by rw [toPyL]; rfl
  | y :: ys => by rw [toPyL, List.any_cons, List.any_cons, any_py ys]; rfl
theorem min_depL {x : D} {xs : List D} {u k : Nat} (h : shp x = true) (hu : u + 60 < k) : u + 1 + min (PyData.depthAll (toPyL xs)) (toPy x).depth < k := by
  rw [dep_py]
  have : dep x ≤ 50 := of_decide_eq_true h
  omega
theorem ls_reads {pins : List (Addr × Obj)} {s : Shared} {σ : L2.St} {H : Hp} {M : Addr → Prop} {y : V} {u : Value} {c : D} {xs : List D} (I : Inv X pins σ H s) (ry : RelV y u) (rb : RepM X.K H M y c) (e : lsOf c = some xs) :
    (∃ bs, Reads s.heap u (.list (toPyL xs)) bs ∨ Reads s.heap u (.tuple (toPyL xs)) bs) ∧ PyData.canLayAll0 (toPyL xs) = true := by
  obtain ⟨bs, r⟩ := Dp.reads I _ y u rb.dp ry
  have l := rb.lay
  cases c with
  | lst ys => cases e; rw [toPy] at r l; rw [PyData.canLay0] at l; exact ⟨⟨bs, .inl r⟩, l⟩
  | tup ys => cases e; rw [toPy] at r l; rw [PyData.canLay0] at l; exact ⟨⟨bs, .inr r⟩, l⟩
  | _ => cases e
theorem o_in (hu : X.A.units + 60 < cLine) : OpR X (compareOp .In) (rG2 X.K (blM inG)) := blR fun pins s σ H M x y v u a b k Q I rx ry ra rb e _ q => by
  unfold inG at e
  cases e1 : lsOf b with
  | none => rw [e1] at e; cases e
  | some xs =>
    rw [e1, Option.bind_some] at e
    by_cases hs : shp a = true
    · rw [if_pos hs] at e
      cases e
      obtain ⟨as, r1⟩ := Dp.reads I _ x v ra.dp rx
      obtain ⟨⟨bs, r2⟩, l⟩ := ls_reads I ry rb e1
      rw [← any_py] at q
      rcases r2 with r2 | r2
      · exact SeqAt.in_list_reads r2 r1 l ra.lay (min_depL hs hu) q
      · exact SeqAt.in_tuple_reads r2 r1 l ra.lay (min_depL hs hu) q
    · rw [if_neg hs] at e; cases e
theorem o_nin (hu : X.A.units + 60 < cLine) : OpR X (compareOp .NotIn) (rG2 X.K (blM ninG)) := blR fun pins s σ H M x y v u a b k Q I rx ry ra rb e _ q => by
  unfold ninG inG at e
  cases e1 : lsOf b with
  | none => rw [e1] at e; cases e
  | some xs =>
    rw [e1, Option.bind_some] at e
    by_cases hs : shp a = true
    · rw [if_pos hs] at e
      cases e
      obtain ⟨as, r1⟩ := Dp.reads I _ x v ra.dp rx
      obtain ⟨⟨bs, r2⟩, l⟩ := ls_reads I ry rb e1
      rw [← any_py] at q
      rcases r2 with r2 | r2
      · exact SeqAt.notIn_list_reads r2 r1 l ra.lay (min_depL hs hu) q
      · exact SeqAt.notIn_tuple_reads r2 r1 l ra.lay (min_depL hs hu) q
    · rw [if_neg hs] at e; cases e
theorem ord_of {g : D → D → Bool} {a b : D} {k : Bool} (e : ordG g a b = some k) : PySem.W.alike (toPy a) (toPy b) = true ∧ toPy a ≠ .none ∧ (shp a = true ∨ shp b = true) ∧ k = g a b := by
  unfold ordG at e
  by_cases h : alk a b = true ∧ isNon a = false ∧ (shp a = true ∨ shp b = true)
  · rw [if_pos h] at e
    refine ⟨h.1, ?_, h.2.2, (Option.some.inj e).symm⟩
    intro z
    cases a with
    | non => exact absurd h.2.1 (by decide)
    | bl _ => rw [toPy] at z; cases z
    | int _ => rw [toPy] at z; cases z
    | str _ => rw [toPy] at z; cases z
    | tup _ => rw [toPy] at z; cases z
    | lst _ => rw [toPy] at z; cases z
  · rw [if_neg h] at e; cases e
theorem ltG_of {a b : D} {k : Bool} (e : ltG a b = some k) : (∃ i j, a = .int i ∧ b = .int j ∧ k = decide (i < j)) ∨ ordG ltb a b = some k := by
  unfold ltG at e
  split at e
  · exact .inl ⟨_, _, rfl, rfl, (Option.some.inj e).symm⟩
  · exact .inr e
theorem gtG_of {a b : D} {k : Bool} (e : gtG a b = some k) : (∃ i j, a = .int i ∧ b = .int j ∧ k = decide (j < i)) ∨ ordG (fun a b => ltb b a) a b = some k := by
  unfold gtG at e
  split at e
  · exact .inl ⟨_, _, rfl, rfl, (Option.some.inj e).symm⟩
  · exact .inr e
theorem leG_of {a b : D} {k : Bool} (e : leG a b = some k) : (∃ i j, a = .int i ∧ b = .int j ∧ k = decide (i ≤ j)) ∨ ordG (fun a b => !ltb b a) a b = some k := by
  unfold leG at e
  split at e
  · exact .inl ⟨_, _, rfl, rfl, (Option.some.inj e).symm⟩
  · exact .inr e
theorem geG_of {a b : D} {k : Bool} (e : geG a b = some k) : (∃ i j, a = .int i ∧ b = .int j ∧ k = decide (j ≤ i)) ∨ ordG (fun a b => !ltb a b) a b = some k := by
  unfold geG at e
  split at e
  · exact .inl ⟨_, _, rfl, rfl, (Option.some.inj e).symm⟩
  · exact .inr e
theorem o_lt (hu : X.A.units + 60 < cLine) : OpR X (compareOp .Lt) (rG2 X.K (blM ltG)) := blR fun pins s σ H M x y v u a b k Q I rx ry ra rb e _ q => by
  rcases ltG_of e with ⟨i, j, rfl, rfl, rfl⟩ | e
  · cases ra.int; cases rb.int
    obtain ⟨t, rfl⟩ := rx; obtain ⟨t', rfl⟩ := ry
    exact lt_int q
  · obtain ⟨h1, h2, h3, h4⟩ := ord_of e
    obtain ⟨as, r1⟩ := Dp.reads I _ x v ra.dp rx
    obtain ⟨bs, r2⟩ := Dp.reads I _ y u rb.dp ry
    rw [h4] at q
    exact PySem.W.lt_data r1 r2 h1 h2 (min_dep h3 hu) q
theorem o_gt (hu : X.A.units + 60 < cLine) : OpR X (compareOp .Gt) (rG2 X.K (blM gtG)) := blR fun pins s σ H M x y v u a b k Q I rx ry ra rb e _ q => by
  rcases gtG_of e with ⟨i, j, rfl, rfl, rfl⟩ | e
  · cases ra.int; cases rb.int
    obtain ⟨t, rfl⟩ := rx; obtain ⟨t', rfl⟩ := ry
    exact gt_int q
  · obtain ⟨h1, h2, h3, h4⟩ := ord_of e
    obtain ⟨as, r1⟩ := Dp.reads I _ x v ra.dp rx
    obtain ⟨bs, r2⟩ := Dp.reads I _ y u rb.dp ry
    rw [h4] at q
    exact PySem.W.gt_data r1 r2 h1 h2 (min_dep h3 hu) q
theorem o_le (hu : X.A.units + 60 < cLine) : OpR X (compareOp .LtE) (rG2 X.K (blM leG)) := blR fun pins s σ H M x y v u a b k Q I rx ry ra rb e _ q => by
  rcases leG_of e with ⟨i, j, rfl, rfl, rfl⟩ | e
  · cases ra.int; cases rb.int
    obtain ⟨t, rfl⟩ := rx; obtain ⟨t', rfl⟩ := ry
    exact le_int q
  · obtain ⟨h1, h2, h3, h4⟩ := ord_of e
    obtain ⟨as, r1⟩ := Dp.reads I _ x v ra.dp rx
    obtain ⟨bs, r2⟩ := Dp.reads I _ y u rb.dp ry
    rw [h4] at q
    exact PySem.W.le_data r1 r2 h1 h2 (min_dep h3 hu) q
theorem o_ge (hu : X.A.units + 60 < cLine) : OpR X (compareOp .GtE) (rG2 X.K (blM geG)) := blR fun pins s σ H M x y v u a b k Q I rx ry ra rb e _ q => by
  rcases geG_of e with ⟨i, j, rfl, rfl, rfl⟩ | e
  · cases ra.int; cases rb.int
    obtain ⟨t, rfl⟩ := rx; obtain ⟨t', rfl⟩ := ry
    exact ge_int q
  · obtain ⟨h1, h2, h3, h4⟩ := ord_of e
    obtain ⟨as, r1⟩ := Dp.reads I _ x v ra.dp rx
    obtain ⟨bs, r2⟩ := Dp.reads I _ y u rb.dp ry
    rw [h4] at q
    exact PySem.W.ge_data r1 r2 h1 h2 (min_dep h3 hu) q
theorem RepM.non_iff {K : PySem.W.Frag} {H : Hp} {M : Addr → Prop} {x : V} {a : D} (h : RepM K H M x a) : decide (x = .non) = isNon a := by
  rcases h with h | ⟨p, rfl, h⟩
  · cases h <;> simp [isNon]
  · cases h; simp [isNon]
theorem rel_non {x : V} {v : Value} (r : RelV x v) : (v == Value.none) = decide (x = .non) := r.none_iff
theorem isG_of {a b : D} {k : Bool} (e : isG a b = some k) : (b = .non ∧ k = isNon a) ∨ (∃ p q, a = .bl p ∧ b = .bl q ∧ k = decide (p = q)) ∨ (∃ q, a = .non ∧ b = .bl q ∧ k = false) := by
  unfold isG at e
  split at e
  · exact .inl ⟨rfl, (Option.some.inj e).symm⟩
  · exact .inr (.inl ⟨_, _, rfl, rfl, (Option.some.inj e).symm⟩)
  · exact .inr (.inr ⟨_, rfl, rfl, (Option.some.inj e).symm⟩)
  · cases e
theorem RepM.bl {K : PySem.W.Frag} {H : Hp} {M : Addr → Prop} {x : V} {b : Bool} (h : RepM K H M x (.bl b)) : x = .bl b := by
  rcases h with q | ⟨a, _, q⟩
  · cases q; rfl
  · cases q
theorem RepM.non {K : PySem.W.Frag} {H : Hp} {M : Addr → Prop} {x : V} (h : RepM K H M x .non) : x = .non := by
  rcases h with q | ⟨a, _, q⟩
  · cases q; rfl
  · cases q
theorem o_is : OpR X (compareOp .Is) (rG2 X.K (blM isG)) := blR fun pins s σ H M x y v u a b k Q I rx ry ra rb e _ q => by
  rcases isG_of e with ⟨rfl, rfl⟩ | ⟨p, p', rfl, rfl, rfl⟩ | ⟨p, rfl, rfl, rfl⟩
  · cases rb.non
    cases ry
    rw [← ra.non_iff, ← rx.none_iff] at q
    exact is_none_gen q
  · cases ra.bl; cases rb.bl; cases rx; cases ry
    by_cases e : p = p'
    · subst e; exact wpAny_is_self rfl (by simpa using q)
    · exact wpAny_is_other rfl (fun z => e (Value.bool.inj z)) (by simpa [e] using q)
  · cases ra.non; cases rb.bl; cases rx; cases ry
    exact wpAny_is_other rfl (fun z => nomatch z) q
theorem o_nis : OpR X (compareOp .IsNot) (rG2 X.K (blM nisG)) := blR fun pins s σ H M x y v u a b k Q I rx ry ra rb e _ q => by
  unfold nisG at e
  cases e1 : isG a b with
  | none => rw [e1] at e; cases e
  | some k1 =>
    rw [e1] at e
    cases e
    rcases isG_of e1 with ⟨rfl, rfl⟩ | ⟨p, p', rfl, rfl, rfl⟩ | ⟨p, rfl, rfl, rfl⟩
    · cases rb.non
      cases ry
      rw [← ra.non_iff, ← rx.none_iff] at q
      exact isnot_none_gen q
    · cases ra.bl; cases rb.bl; cases rx; cases ry
      by_cases e : p = p'
      · subst e; exact wpAny_isNot_self rfl (by simpa using q)
      · exact wpAny_isNot_other rfl (fun z => e (Value.bool.inj z)) (by simpa [e] using q)
    · cases ra.non; cases rb.bl; cases rx; cases ry
      exact wpAny_isNot_other rfl (fun z => nomatch z) q

/-! ### binary operations -/
def mulOk (i j : Int) : Bool := (decide (-(2 ^ 64) < i) && decide (i < 2 ^ 64)) || (decide (-(2 ^ 64) < j) && decide (j < 2 ^ 64))
theorem mulOk_of {i j : Int} (h : mulOk i j = true) : CMul i j := by
  unfold mulOk at h
  simp only [Bool.or_eq_true, Bool.and_eq_true, decide_eq_true_eq] at h
  exact h
def addG : D → D → Option Res
  | .int i, .int j => some (.inl (.int (i + j)))
  | .tup xs, .tup ys => if room (xs.length + ys.length) = true then some (.inl (.tup (xs ++ ys))) else none
  | .lst xs, .lst ys => if room (xs.length + ys.length) = true then some (.inr (xs ++ ys)) else none
  | _, _ => none
def subG : D → D → Option Res
  | .int i, .int j => some (.inl (.int (i - j)))
  | _, _ => none
def mulG : D → D → Option Res
  | .int i, .int j => if mulOk i j = true then some (.inl (.int (i * j))) else none
  | .lst xs, .int k => if 0 ≤ k ∧ k ≤ 1000 ∧ xs.length ≤ 1000 then some (.inr (List.replicate k.toNat xs).flatten) else none
  | _, _ => none
def divG : D → D → Option Res
  | .int i, .int j => if j ≠ 0 ∧ j.natAbs < 1073741824 then some (.inl (.int (i.fdiv j))) else none
  | _, _ => none
def modG : D → D → Option Res
  | .int i, .int j => if j ≠ 0 then some (.inl (.int (i.fmod j))) else none
  | _, _ => none
def powG : D → D → Option Res
  | .int i, .int j => if 0 ≤ j ∧ j ≤ 1000000 ∧ i.natAbs < 2 ^ 64 then some (.inl (.int (i ^ j.toNat))) else none
  | _, _ => none
/-- ints alone -/
theorem intR {f : Value → Value → Sem Value} {g : D → D → Option Res} {C : Int → Int → Prop} {h : Int → Int → Int} (hr : OpR X f (rI C fun i j => .int (h i j)))
    (hg : ∀ a b r, g a b = some r → ∃ i j, a = .int i ∧ b = .int j ∧ C i j ∧ r = .inl (.int (h i j))) : OpR X f (rG2 X.K g) := by
  intro pins s σ H x y v u Q I rx ry hh
  obtain ⟨M, a, b, r, dom, ra, rb, e, q⟩ := hh
  obtain ⟨i, j, rfl, rfl, hc, rfl⟩ := hg a b r e
  exact hr pins s σ H x y v u Q I rx ry ⟨i, j, ra.int, rb.int, hc, q _ H ⟨New.refl, .int _⟩⟩
theorem o_sub : OpR X (binaryOp .Sub) (rG2 X.K subG) := intR (C := fun _ _ => True) (fun pins s σ H x y v u Q I rx ry ⟨i, j, e1, e2, _, q⟩ => op_sub pins s σ H x y v u Q I rx ry ⟨i, j, e1, e2, q⟩) fun a b r e => by
  unfold subG at e
  split at e
  · cases e; exact ⟨_, _, rfl, rfl, True.intro, rfl⟩
  · cases e
theorem o_div : OpR X (binaryOp .FloorDiv) (rG2 X.K divG) := intR op_fdivN fun a b r e => by
  unfold divG at e
  split at e
  · rename_i i j
    by_cases h : j ≠ 0 ∧ j.natAbs < 1073741824
    · rw [if_pos h] at e; cases e; exact ⟨_, _, rfl, rfl, h, rfl⟩
    · rw [if_neg h] at e; cases e
  · cases e
theorem o_mod : OpR X (binaryOp .Mod) (rG2 X.K modG) := intR op_modN fun a b r e => by
  unfold modG at e
  split at e
  · rename_i i j
    by_cases h : j ≠ 0
    · rw [if_pos h] at e; cases e; exact ⟨_, _, rfl, rfl, h, rfl⟩
    · rw [if_neg h] at e; cases e
  · cases e
theorem o_pow : OpR X (binaryOp .Pow) (rG2 X.K powG) := intR op_pow fun a b r e => by
  unfold powG at e
  split at e
  · rename_i i j
    by_cases h : 0 ≤ j ∧ j ≤ 1000000 ∧ i.natAbs < 2 ^ 64
    · rw [if_pos h] at e; cases e; exact ⟨_, _, rfl, rfl, h, rfl⟩
    · rw [if_neg h] at e; cases e
  · cases e
theorem RepM.tup {K : PySem.W.Frag} {H : Hp} {M : Addr → Prop} {x : V} {ds : List D} (h : RepM K H M x (.tup ds)) : ∃ a vs, x = .ref a ∧ SqT K H a vs ∧ RepL K H M vs ds := by
  rcases h with q | ⟨a, _, q⟩
  · cases q with | tup h1 h2 => exact ⟨_, _, rfl, SqT.ofFx h1, h2⟩
  · cases q
theorem RepM.rep {K : PySem.W.Frag} {H : Hp} {M : Addr → Prop} {x : V} {ds : List D} (h : RepM K H M x (.tup ds)) : Rep K H M x (.tup ds) := by
  rcases h with q | ⟨a, _, q⟩
  · exact q
  · cases q
theorem RepM.lst {K : PySem.W.Frag} {H : Hp} {M : Addr → Prop} {x : V} {ds : List D} (h : RepM K H M x (.lst ds)) : ∃ a vs, x = .ref a ∧ H a = some (.lst vs) ∧ RepL K H M vs ds := by
  rcases h with q | ⟨a, e, q⟩
  · cases q with | lst h1 h2 => exact ⟨_, _, rfl, h1.1, h2⟩
  · cases q with | lst h1 h2 => exact ⟨a, _, e, h1, h2⟩
theorem new_tup {K : PySem.W.Frag} {H : Hp} {M : Addr → Prop} {p : Addr} {vs : List V} {ds : List D} (hp : H p = none) (r : RepL K H M vs ds) : ResR K H M (.ref p) (upd H p (.tup vs)) (.inl (.tup ds)) :=
  ⟨New.upd hp, .tup (.inl ⟨upd_same, id, False.elim⟩) (r.to (New.upd hp).step)⟩
theorem new_lst {K : PySem.W.Frag} {H : Hp} {M : Addr → Prop} {p : Addr} {vs : List V} {ds : List D} (hp : H p = none) (r : RepL K H M vs ds) : ResR K H M (.ref p) (upd H p (.lst vs)) (.inr ds) :=
  ⟨p, vs, rfl, hp, New.upd hp, upd_same, r⟩
theorem RepL.nil_iff {K : PySem.W.Frag} {H : Hp} {M : Addr → Prop} {vs : List V} {ds : List D} (h : RepL K H M vs ds) : vs = [] ↔ ds = [] := by
  cases h <;> simp
theorem o_add : OpR X (binaryOp .Add) (rG2 X.K addG) := by
  intro pins s σ H x y v u Q I rx ry hh
  obtain ⟨M, a, b, r, dom, ra, rb, e, q⟩ := hh
  unfold addG at e
  split at e
  · cases e
    exact op_add pins s σ H x y v u Q I rx ry ⟨_, _, ra.int, rb.int, q _ H ⟨New.refl, .int _⟩⟩
  · rename_i xs ys
    by_cases h : room (xs.length + ys.length) = true
    · rw [if_pos h] at e
      cases e
      obtain ⟨p, vs, e1, h1, r1⟩ := ra.tup
      obtain ⟨p', ws, e2, h2, r2⟩ := rb.tup
      refine op_catA pins s σ H x y v u Q I rx ry ⟨p, p', vs, ws, e1, e2, h1, h2, by rw [r1.length, r2.length]; exact room_le h, fun z => ?_, fun z1 z => ?_, fun z1 z2 t ht => q _ _ (new_tup ht (r1.append r2))⟩
      · have : xs = [] := r1.nil_iff.mp z
        subst this
        exact q _ H ⟨New.refl, by rw [← e2]; exact rb.rep⟩
      · have : ys = [] := r2.nil_iff.mp z
        subst this
        refine q _ H ⟨New.refl, ?_⟩
        rw [← e1, List.append_nil]; exact ra.rep
    · rw [if_neg h] at e; cases e
  · rename_i xs ys
    by_cases h : room (xs.length + ys.length) = true
    · rw [if_pos h] at e
      cases e
      obtain ⟨p, vs, e1, h1, r1⟩ := ra.lst
      obtain ⟨p', ws, e2, h2, r2⟩ := rb.lst
      exact op_cat pins s σ H x y v u Q I rx ry ⟨p, p', vs, ws, e1, e2, h1, h2, by rw [r1.length, r2.length]; exact room_le h, fun t ht => q _ _ (new_lst ht (r1.append r2))⟩
    · rw [if_neg h] at e; cases e
  · cases e
theorem RepL.reps {K : PySem.W.Frag} {H : Hp} {M : Addr → Prop} {vs : List V} {ds : List D} (h : RepL K H M vs ds) : ∀ n : Nat, RepL K H M (List.replicate n vs).flatten (List.replicate n ds).flatten
  | 0 => .nil
  | n + 1 => by rw [List.replicate_succ, List.replicate_succ, List.flatten_cons, List.flatten_cons]; exact h.append (h.reps n)
theorem o_mul : OpR X (binaryOp .Mult) (rG2 X.K mulG) := by
  intro pins s σ H x y v u Q I rx ry hh
  obtain ⟨M, a, b, r, dom, ra, rb, e, q⟩ := hh
  unfold mulG at e
  split at e
  · rename_i i j
    by_cases h : mulOk i j = true
    · rw [if_pos h] at e
      cases e
      exact op_mul pins s σ H x y v u Q I rx ry ⟨_, _, ra.int, rb.int, mulOk_of h, q _ H ⟨New.refl, .int _⟩⟩
    · rw [if_neg h] at e; cases e
  · rename_i xs k
    by_cases h : 0 ≤ k ∧ k ≤ 1000 ∧ xs.length ≤ 1000
    · rw [if_pos h] at e
      cases e
      obtain ⟨p, vs, e1, h1, r1⟩ := ra.lst
      refine op_rep pins s σ H x y v u Q I rx ry ⟨p, k, vs, e1, rb.int, h1, by omega, by omega, ?_, fun t ht => q _ _ (new_lst ht (r1.reps _))⟩
      rw [r1.length, sizeLine_eq]
      have h2 : k.toNat ≤ 1000 := by omega
      calc xs.length * k.toNat ≤ 1000 * 1000 := Nat.mul_le_mul h.2.2 h2
        _ ≤ 16777216 := by decide
    · rw [if_neg h] at e; cases e
  · cases e
end
end MP

namespace MP
open PySem PySem.Spec PyProof.Rows L2

/-! ### subscripts -/
def ixG : D → D → Option Res
  | .lst xs, .int i => (atI xs i).map .inl
  | .tup xs, .int i => (atI xs i).map .inl
  | _, _ => none
theorem RepL.ix {K : PySem.W.Frag} {H : Hp} {M : Addr → Prop} {vs : List V} {ds : List D} {i : Int} {d : D} (h : RepL K H M vs ds) (e : atI ds i = some d) : ∃ v, atI vs i = some v ∧ Rep K H M v d := by
  unfold atI at e ⊢
  rw [h.length]
  cases q : ixN ds.length i with
  | none => rw [q] at e; cases e
  | some j =>
    rw [q, Option.bind_some] at e
    rw [Option.bind_some]
    exact h.get e
theorem o_ix {X : Cx} : IxR X (rG2 X.K ixG) := by
  intro value slice pins s σ H x y v u Q I rx ry hh hs
  obtain ⟨M, a, b, r, dom, ra, rb, e, q⟩ := hh
  unfold ixG at e
  split at e
  · rename_i xs i
    cases e1 : atI xs i with
    | none => rw [e1] at e; cases e
    | some d =>
      rw [e1] at e
      cases e
      obtain ⟨p, vs, e2, h2, r2⟩ := ra.lst
      obtain ⟨z, hz, rz⟩ := r2.ix e1
      exact ix_list value slice pins s σ H x y v u Q I rx ry ⟨p, vs, i, z, e2, rb.int, SqL.of h2, hz, q z H ⟨New.refl, rz⟩⟩ hs
  · rename_i xs i
    cases e1 : atI xs i with
    | none => rw [e1] at e; cases e
    | some d =>
      rw [e1] at e
      cases e
      obtain ⟨p, vs, e2, h2, r2⟩ := ra.tup
      obtain ⟨z, hz, rz⟩ := r2.ix e1
      exact ix_tup value slice pins s σ H x y v u Q I rx ry ⟨p, vs, i, z, e2, rb.int, h2, hz, q z H ⟨New.refl, rz⟩⟩ hs
  · cases e
/-- xs[lo:hi] -/
def cutL {α : Type} (xs : List α) (lo hi : Option Int) : List α := (xs.drop (HT.sIx xs.length 0 lo)).take (HT.sIx xs.length xs.length hi - HT.sIx xs.length 0 lo)
def slG (lo hi : Option Int) : D → Option Res
  | .lst xs => some (.inr (cutL xs lo hi))
  | .tup xs => some (.inl (.tup (cutL xs lo hi)))
  | _ => none
def rGS (K : PySem.W.Frag) : V → Option Int → Option Int → Hp → VK → Prop := fun x lo hi H Q => ∃ M a r, (∀ a, M a → H a ≠ none) ∧ RepM K H M x a ∧ slG lo hi a = some r ∧ ∀ z H', ResR K H M z H' r → Q z H'
theorem RepL.cut {K : PySem.W.Frag} {H : Hp} {M : Addr → Prop} {vs : List V} {ds : List D} {lo hi : Option Int} (h : RepL K H M vs ds) : RepL K H M (cutV vs lo hi) (cutL ds lo hi) := by
  unfold cutV cutL
  rw [h.length]
  exact (h.drop _).take _
theorem cut_all {α : Type} {xs : List α} {lo hi : Option Int} (h : HT.sIx xs.length 0 lo = 0 ∧ HT.sIx xs.length xs.length hi = xs.length) : cutL xs lo hi = xs := by
  unfold cutL
  rw [h.1, h.2]
  simp
theorem o_sl {X : Cx} : L2.SlR X (rGS X.K) := by
  intro pins s σ H x v vl vu lo hi sl Q I rx hs pl pu hh
  obtain ⟨M, a, r, dom, ra, e, q⟩ := hh
  unfold slG at e
  split at e
  · rename_i xs
    cases e
    obtain ⟨p, vs, e2, h2, r2⟩ := ra.lst
    exact sl_list pins s σ H x v vl vu lo hi sl Q I rx hs pl pu ⟨p, vs, e2, SqL.of h2, fun t ht => q _ _ (new_lst ht r2.cut)⟩
  · rename_i xs
    cases e
    obtain ⟨p, vs, e2, h2, r2⟩ := ra.tup
    refine sl_tupA pins s σ H x v vl vu lo hi sl Q I rx hs pl pu ⟨p, vs, e2, h2, fun hw => q _ H ⟨New.refl, ?_⟩, fun _ t ht => q _ _ (new_tup ht r2.cut)⟩
    rw [r2.length] at hw
    rw [cut_all hw, ← e2]
    exact ra.rep
  · cases e
abbrev Ep := Store → R (Option Int × Store)
def pN : Ep := fun ρ => .ok (none, ρ)
def pS (f : Eo) : Ep := fun ρ => (f ρ).bind fun x => (ofO ((res x.2 x.1).bind fun d => match d with
  | .int i => some i
  | _ => none)).bind fun i => .ok (some i, x.2)
def slM (f : Eo) (lo hi : Ep) : Em := fun ρ => (f ρ).bind fun x => (lo x.2).bind fun l => (hi l.2).bind fun h => (ofO ((res h.2 x.1).bind (slG l.1 h.1))).bind fun d => .ok (d, h.2)
def tOfP (K : PySem.W.Frag) (τ : LTab) (Wi : WiT) (f : Ep) : TO := fun σ H Q => ∃ F M ρ, SR K τ F H M σ ρ ∧ match f ρ with
  | .bad => False
  | .exc c p => Wi F c p
  | .ok (o, ρ') => ∀ H' M', SR K τ F H' M' σ ρ' → Step H M H' M' → Q o H'
section
variable {K : PySem.W.Frag} {τ : LTab} {Wi : WiT} {F : Fr} {H H' : Hp} {M M' : Addr → Prop} {σ : L2.St} {ρ : Store} {ds : List D} {T : List Nat}
theorem t_pN {Q : Option Int → Hp → Prop} (h : tOfP K τ Wi pN σ H Q) : tNoPart σ H Q := by
  obtain ⟨F, M, ρ, S, h⟩ := h
  exact h H M S Step.refl
theorem t_pS {f : Eo} {Q : Option Int → Hp → Prop} (h : tOfP K τ Wi (pS f) σ H Q) : tPart (tOfO K τ Wi f) σ H Q := by
  obtain ⟨F, M, ρ, S, h⟩ := h
  refine ⟨F, M, ρ, S, ?_⟩
  unfold pS at h
  cases q : f ρ with
  | bad => rw [q] at h; exact h
  | exc c p => rw [q] at h; exact h
  | ok x =>
    rw [q, R.bind_ok] at h
    refine fun v H1 M1 r1 S1 st1 => ?_
    cases q3 : MP.res x.2 x.1 with
    | none => rw [q3] at h; exact h.elim
    | some a =>
      rw [q3, Option.bind_some] at h
      cases a with
      | int i => exact ⟨i, res_int S1 r1 q3, h H1 M1 S1 st1⟩
      | _ => exact h.elim
theorem t_slM {f : Eo} {lo hi : Ep} {Q : VK} (h : tOfM K τ Wi (slM f lo hi) σ H Q) : tSl (rGS K) (tOfO K τ Wi f) (tOfP K τ Wi lo) (tOfP K τ Wi hi) σ H Q := by
  obtain ⟨F, M, ρ, S, h⟩ := h
  refine ⟨F, M, ρ, S, ?_⟩
  unfold slM at h
  cases q : f ρ with
  | bad => rw [q] at h; exact h
  | exc c p => rw [q] at h; exact h
  | ok x =>
    rw [q, R.bind_ok] at h
    refine fun v H1 M1 r1 S1 st1 => ⟨F, M1, x.2, S1, ?_⟩
    cases q2 : lo x.2 with
    | bad => rw [q2] at h; exact h
    | exc c p => rw [q2] at h; exact h
    | ok l =>
      rw [q2, R.bind_ok] at h
      refine fun H2 M2 S2 st2 => ⟨F, M2, l.2, S2, ?_⟩
      cases q3 : hi l.2 with
      | bad => rw [q3] at h; exact h
      | exc c p => rw [q3] at h; exact h
      | ok u =>
        rw [q3, R.bind_ok] at h
        refine fun H3 M3 S3 st3 => ?_
        cases q4 : MP.res u.2 x.1 with
        | none => rw [q4] at h; exact h.elim
        | some a =>
          rw [q4, Option.bind_some] at h
          cases q5 : slG l.1 u.1 a with
          | none => rw [q5] at h; exact h.elim
          | some d =>
            rw [q5] at h
            exact ⟨M3, a, d, S3.dom, S3.res ((r1.to st2).to st3) q4, q5, fin_res S3 ((st1.trans st2).trans st3) h⟩
end

/-! ### built-ins -/
def intsOf : List D → Option (List Int)
  | [] => some []
  | .int i :: ds => (intsOf ds).map (i :: ·)
  | _ => none
def boolsOf : List D → Option (List Bool)
  | [] => some []
  | .bl i :: ds => (boolsOf ds).map (i :: ·)
  | _ => none
theorem intsOf_eq : ∀ {ds : List D} {ns : List Int}, intsOf ds = some ns → ds = ns.map D.int
  | [], _, e => by cases e; rfl
  | .int i :: ds, ns, e => by
    have e : (intsOf ds).map (i :: ·) = some ns := e
    cases q : intsOf ds with
    | none => rw [q] at e; cases e
    | some ms => rw [q] at e; cases e; rw [intsOf_eq q]; rfl
  | .non :: _, _, e => by cases e
  | .bl _ :: _, _, e => by cases e
  | .str _ :: _, _, e => by cases e
  | .tup _ :: _, _, e => by cases e
  | .lst _ :: _, _, e => by cases e
theorem boolsOf_eq : ∀ {ds : List D} {ns : List Bool}, boolsOf ds = some ns → ds = ns.map D.bl
  | [], _, e => by cases e; rfl
  | .bl i :: ds, ns, e => by
    have e : (boolsOf ds).map (i :: ·) = some ns := e
    cases q : boolsOf ds with
    | none => rw [q] at e; cases e
    | some ms => rw [q] at e; cases e; rw [boolsOf_eq q]; rfl
  | .non :: _, _, e => by cases e
  | .int _ :: _, _, e => by cases e
  | .str _ :: _, _, e => by cases e
  | .tup _ :: _, _, e => by cases e
  | .lst _ :: _, _, e => by cases e
theorem RepL.bools {K : PySem.W.Frag} {H : Hp} {M : Addr → Prop} : ∀ {ns : List Bool} {vs : List V}, RepL K H M vs (ns.map D.bl) → vs = ns.map V.bl
  | [], _, h => by cases h; rfl
  | n :: ns, _, h => by
    cases h with
    | cons h1 h2 => cases h1; rw [RepL.bools h2]; rfl
mutual
def ofPy : PyData → D
  | .none => .non
  | .bool b => .bl b
  | .int i => .int i
  | .str x => .str x
  | .tuple xs => .tup (ofPyL xs)
  | .list xs => .lst (ofPyL xs)
  | .dict _ => .non
def ofPyL : List PyData → List D
  | [] => []
  | x :: xs => ofPy x :: ofPyL xs
end
mutual
theorem of_toPy : ∀ d : D, ofPy (toPy d) = d
  | .non => by rw [toPy, ofPy]
  | .bl x => by rw [toPy, ofPy]
  | .int x => by rw [toPy, ofPy]
  | .str x => by rw [toPy, ofPy]
  | .tup xs => by rw [toPy, ofPy, of_toPyL xs]
  | .lst xs => by rw [toPy, ofPy, of_toPyL xs]
theorem of_toPyL : ∀ xs : List D, ofPyL (toPyL xs) = xs
  | [] => by rw [toPyL, ofPyL]
  | x :: xs => by rw [toPyL, ofPyL, of_toPy x, of_toPyL xs]
end
theorem toPy_inj {a b : D} (e : toPy a = toPy b) : a = b := by rw [← of_toPy a, ← of_toPy b, e]
def alkL (ds : List D) : Bool := ds.all fun x => ds.all fun y => alk x y
def shpL (ds : List D) : Bool := ds.all shp
def srtb (ds : List D) : Bool := (ds.all fun d => match d with
    | .tup (_ :: _) => true
    | _ => false) || (ds.all fun d => match d with
    | .non => false
    | .tup _ => false
    | _ => true)
def leS (a b : D) : Bool := !ltb b a
def minL (x : D) (xs : List D) : D := xs.foldl (fun a y => if ltb y a = true then y else a) x
def maxL (x : D) (xs : List D) : D := xs.foldl (fun a y => if ltb a y = true then y else a) x
def bestG (sel : D → List D → D) (two : Int → Int → Int) : List D → Option Res
  | [.lst (x :: xs)] => if alkL (x :: xs) = true ∧ (x :: xs).all (fun d => !isNon d) = true ∧ shpL (x :: xs) = true then some (.inl (sel x xs)) else none
  | [.int i, .int j] => some (.inl (.int (two i j)))
  | _ => none
def lenG : List D → Option Res
  | [.lst xs] => some (.inl (.int xs.length))
  | [.tup xs] => some (.inl (.int xs.length))
  | _ => none
def absG : List D → Option Res
  | [.int i] => some (.inl (.int (if i < 0 then -i else i)))
  | _ => none
def sumG : List D → Option Res
  | [.lst xs] => (intsOf xs).map fun ns => .inl (.int ns.sum)
  | _ => none
def allG : List D → Option Res
  | [.lst xs] => (boolsOf xs).map fun bs => .inl (.bl (bs.all id))
  | _ => none
def anyG : List D → Option Res
  | [.lst xs] => (boolsOf xs).map fun bs => .inl (.bl (bs.any id))
  | _ => none
def minG (as : List D) : Option Res := bestG minL (fun i j => if j < i then j else i) as
def maxG (as : List D) : Option Res := bestG maxL (fun i j => if j > i then j else i) as
def sortG : List D → Option Res
  | [.lst xs] => if alkL xs = true ∧ srtb xs = true ∧ shpL xs = true then some (.inr (xs.mergeSort leS)) else none
  | _ => none
def intG : List D → Option Res
  | [.int i] => some (.inl (.int i))
  | [.bl k] => some (.inl (.int (if k then 1 else 0)))
  | _ => none
def listG : List D → Option Res
  | [.lst xs] => some (.inr xs)
  | [.tup xs] => some (.inr xs)
  | _ => none
def tupG : List D → Option Res
  | [.lst xs] => some (.inl (.tup xs))
  | [.tup xs] => some (.inl (.tup xs))
  | _ => none
section
variable {X : Cx} {K : PySem.W.Frag} {H : Hp} {M : Addr → Prop}
theorem RepML.one {vs : List V} {d : D} (h : RepML K H M vs [d]) : ∃ v, vs = [v] ∧ RepM K H M v d := by
  cases h with
  | cons h1 h2 => cases h2; exact ⟨_, rfl, h1⟩
theorem RepML.two {vs : List V} {d e : D} (h : RepML K H M vs [d, e]) : ∃ v w, vs = [v, w] ∧ RepM K H M v d ∧ RepM K H M w e := by
  cases h with
  | cons h1 h2 =>
    obtain ⟨w, e, h3⟩ := h2.one
    exact ⟨_, w, by rw [e], h1, h3⟩
theorem c_len : CallR X (.builtin "len") (rGN X.K lenG) := by
  intro pins s σ H xs us Q I r hh
  obtain ⟨M, as, rr, dom, ra, e, q⟩ := hh
  unfold lenG at e
  split at e
  · obtain ⟨v, rfl, rv⟩ := ra.one
    cases e
    obtain ⟨p, vs, rfl, h2, r2⟩ := rv.lst
    exact call_len_seq pins s σ H _ us Q I r ⟨p, vs, rfl, .inl (SqL.of h2), by rw [r2.length]; exact q _ H ⟨New.refl, .int _⟩⟩
  · obtain ⟨v, rfl, rv⟩ := ra.one
    cases e
    obtain ⟨p, vs, rfl, h2, r2⟩ := rv.tup
    exact call_len_seq pins s σ H _ us Q I r ⟨p, vs, rfl, .inr h2, by rw [r2.length]; exact q _ H ⟨New.refl, .int _⟩⟩
  · cases e
theorem c_abs : CallR X (.builtin "abs") (rGN X.K absG) := by
  intro pins s σ H xs us Q I r hh
  obtain ⟨M, as, rr, dom, ra, e, q⟩ := hh
  unfold absG at e
  split at e
  · obtain ⟨v, rfl, rv⟩ := ra.one
    cases e
    cases rv.int
    exact call_abs pins s σ H _ us Q I r ⟨_, rfl, q _ H ⟨New.refl, .int _⟩⟩
  · cases e
theorem c_sum (hc : X.calm = true) : CallR X (.builtin "sum") (rGN X.K sumG) := by
  intro pins s σ H xs us Q I r hh
  obtain ⟨M, as, rr, dom, ra, e, q⟩ := hh
  unfold sumG at e
  split at e
  · rename_i ds
    obtain ⟨v, rfl, rv⟩ := ra.one
    cases e1 : intsOf ds with
    | none => rw [e1] at e; cases e
    | some ns =>
      rw [e1] at e
      cases e
      obtain ⟨p, vs, rfl, h2, r2⟩ := rv.lst
      rw [intsOf_eq e1] at r2
      exact cr_sum hc pins s σ H _ us Q I r ⟨p, ns, rfl, by rw [← r2.ints]; exact SqL.of h2, q _ H ⟨New.refl, .int _⟩⟩
  · cases e
theorem c_all (hc : X.calm = true) : CallR X (.builtin "all") (rGN X.K allG) := by
  intro pins s σ H xs us Q I r hh
  obtain ⟨M, as, rr, dom, ra, e, q⟩ := hh
  unfold allG at e
  split at e
  · rename_i ds
    obtain ⟨v, rfl, rv⟩ := ra.one
    cases e1 : boolsOf ds with
    | none => rw [e1] at e; cases e
    | some ns =>
      rw [e1] at e
      cases e
      obtain ⟨p, vs, rfl, h2, r2⟩ := rv.lst
      rw [boolsOf_eq e1] at r2
      exact cr_all hc pins s σ H _ us Q I r ⟨p, ns, rfl, by rw [← r2.bools]; exact SqL.of h2, q _ H ⟨New.refl, .bl _⟩⟩
  · cases e
theorem c_any (hc : X.calm = true) : CallR X (.builtin "any") (rGN X.K anyG) := by
  intro pins s σ H xs us Q I r hh
  obtain ⟨M, as, rr, dom, ra, e, q⟩ := hh
  unfold anyG at e
  split at e
  · rename_i ds
    obtain ⟨v, rfl, rv⟩ := ra.one
    cases e1 : boolsOf ds with
    | none => rw [e1] at e; cases e
    | some ns =>
      rw [e1] at e
      cases e
      obtain ⟨p, vs, rfl, h2, r2⟩ := rv.lst
      rw [boolsOf_eq e1] at r2
      exact cr_any hc pins s σ H _ us Q I r ⟨p, ns, rfl, by rw [← r2.bools]; exact SqL.of h2, q _ H ⟨New.refl, .bl _⟩⟩
  · cases e
theorem c_int : CallR X (.type "int") (rGN X.K intG) := by
  intro pins s σ H xs us Q I r hh
  obtain ⟨M, as, rr, dom, ra, e, q⟩ := hh
  unfold intG at e
  split at e
  · obtain ⟨v, rfl, rv⟩ := ra.one
    cases e
    cases rv.int
    exact call_int1 pins s σ H _ us Q I r (.inl ⟨_, rfl, q _ H ⟨New.refl, .int _⟩⟩)
  · obtain ⟨v, rfl, rv⟩ := ra.one
    cases e
    cases rv.bl
    exact call_int1 pins s σ H _ us Q I r (.inr ⟨_, rfl, q _ H ⟨New.refl, .int _⟩⟩)
  · cases e
theorem c_list : CallR X (.type "list") (rGN X.K listG) := by
  intro pins s σ H xs us Q I r hh
  obtain ⟨M, as, rr, dom, ra, e, q⟩ := hh
  unfold listG at e
  split at e
  · obtain ⟨v, rfl, rv⟩ := ra.one
    cases e
    obtain ⟨p, vs, rfl, h2, r2⟩ := rv.lst
    exact call_list_of pins s σ H _ us Q I r ⟨p, vs, rfl, .inl (SqL.of h2), fun l hl => q _ _ (new_lst hl r2)⟩
  · obtain ⟨v, rfl, rv⟩ := ra.one
    cases e
    obtain ⟨p, vs, rfl, h2, r2⟩ := rv.tup
    exact call_list_of pins s σ H _ us Q I r ⟨p, vs, rfl, .inr h2, fun l hl => q _ _ (new_lst hl r2)⟩
  · cases e
theorem c_tuple : CallR X (.type "tuple") (rGN X.K tupG) := by
  intro pins s σ H xs us Q I r hh
  obtain ⟨M, as, rr, dom, ra, e, q⟩ := hh
  unfold tupG at e
  split at e
  · obtain ⟨v, rfl, rv⟩ := ra.one
    cases e
    obtain ⟨p, vs, rfl, h2, r2⟩ := rv.lst
    exact call_tuple_of pins s σ H _ us Q I r ⟨p, vs, rfl, .inl ⟨SqL.of h2, fun l hl => q _ _ (new_tup hl r2)⟩⟩
  · obtain ⟨v, rfl, rv⟩ := ra.one
    cases e
    have rp := rv.rep
    obtain ⟨p, vs, rfl, h2, r2⟩ := rv.tup
    exact call_tuple_of pins s σ H _ us Q I r ⟨p, vs, rfl, .inr ⟨h2, q _ H ⟨New.refl, rp⟩⟩⟩
  · cases e
/-! sorted -/
abbrev IsD (K : PySem.W.Frag) (H : Hp) (M : Addr → Prop) (v : Value) (d : D) : Prop := ∃ x, RelV x v ∧ Rep K H M x d
theorem each_of : ∀ {us : List Value} {vs : List V} {ds : List D}, Vals vs us → RepL K H M vs ds → PySem.W.EachIs (IsD K H M) us ds
  | _, _, [], .nil, .nil => .nil
  | _, _, d :: ds, .cons r rs, .cons h t => .cons ⟨_, r, h⟩ (each_of rs t)
theorem of_each : ∀ {us : List Value} {ds : List D}, PySem.W.EachIs (IsD K H M) us ds → ∃ vs, Vals vs us ∧ RepL K H M vs ds
  | _, _, .nil => ⟨[], .nil, .nil⟩
  | _, _, .cons ⟨x, r, h⟩ t => by
    obtain ⟨vs, r2, h2⟩ := of_each t
    exact ⟨x :: vs, .cons r r2, .cons h h2⟩
theorem alkL_iff {ds : List D} (h : alkL ds = true) : PySem.W.AllAlike (ds.map toPy) := fun d hd d' hd' => by
  obtain ⟨a, ha, rfl⟩ := List.mem_map.mp hd
  obtain ⟨b, hb, rfl⟩ := List.mem_map.mp hd'
  unfold alkL at h
  simp only [List.all_eq_true] at h
  exact h a ha b hb
theorem srtb_iff {ds : List D} (h : srtb ds = true) : PySem.W.Sortable (ds.map toPy) := by
  unfold srtb at h
  rw [Bool.or_eq_true, List.all_eq_true, List.all_eq_true] at h
  refine h.imp (fun h d hd => ?_) fun h d hd => ?_
  · obtain ⟨a, ha, rfl⟩ := List.mem_map.mp hd
    have := h a ha
    split at this
    · rename_i y ys
      exact ⟨toPy y, toPyL ys, by rw [toPy, toPyL]⟩
    · cases this
  · obtain ⟨a, ha, rfl⟩ := List.mem_map.mp hd
    have := h a ha
    split at this
    · cases this
    · cases this
    · rename_i n1 n2
      refine ⟨fun z => n1 (toPy_inj (z.trans (by rw [toPy]))), fun xs z => ?_⟩
      cases a with
      | tup ys => exact n2 ys rfl
      | _ => rw [toPy] at z; cases z
theorem shpL_dep {ds : List D} (h : shpL ds = true) {d : D} (hd : d ∈ ds) : (toPy d).depth ≤ 50 := by
  rw [dep_py]
  exact of_decide_eq_true (List.all_eq_true.mp h d hd)
theorem c_sorted (hu : X.A.units + 60 < cLine) : CallR X (.builtin "sorted") (rGN X.K sortG) := by
  intro pins s σ H xs us Q I r hh
  obtain ⟨M, as, rr, dom, ra, e, q⟩ := hh
  unfold sortG at e
  split at e
  · rename_i ds
    by_cases hk : alkL ds = true ∧ srtb ds = true ∧ shpL ds = true
    · rw [if_pos hk] at e
      cases e
      obtain ⟨v, rfl, rv⟩ := ra.one
      obtain ⟨p, vs, rfl, h2, r2⟩ := rv.lst
      obtain rfl := Vals.ref1 r
      obtain ⟨its, rvl, hl, hz⟩ := I.list (SqL.of (K := X.K) h2)
      have e1 := each_of rvl r2
      refine PySem.W.sorted_data hl.isList e1 (e1.mono fun v d ⟨x, rx, rd⟩ => Dp.reads I _ x v rd.dp rx) (alkL_iff hk.1) (srtb_iff hk.2.1) (by rw [← r2.length]; exact hz) (fun d hd => ?_) fun out ho eo => ?_
      · have := shpL_dep hk.2.2 hd; omega
      · obtain ⟨ws, rw', rl⟩ := of_each eo
        obtain ⟨ep, he'⟩ := PyProof.Rows.sortedAll_at s.heap its (List.toArray out)
        have hlen : ws.length ≤ sizeLine := by
          rw [rl.length, List.length_mergeSort, ← r2.length]; exact hz
        have hf : H (s.heap.objs.size + 1) = none := I.hok.fresh (Nat.le_succ _)
        exact ⟨.ref _, upd H (s.heap.objs.size + 1) (.lst ws), I.laid (t' := s.toks) (fun _ _ => PyProof.Rows.sortedAll_old) (Nat.le_succ _) ⟨hlen, _, ep, rw', he'⟩, rfl, q _ _ (new_lst hf (by
          have e : (PySem.W.dataLe false toPy : D → D → Bool) = leS := by
            funext a b
            rfl
          rw [← e]; exact rl))⟩
    · rw [if_neg hk] at e; cases e
  · cases e
/-! min, max -/
theorem readsAll_of : ∀ {us : List Value} {ds : List D} {s : Shared} {σ : L2.St} {pins : List (Addr × Obj)} {vs : List V}, Inv X pins σ H s → Vals vs us → RepL X.K H M vs ds → ∃ as, ReadsAll s.heap us (ds.map toPy) as := by
  intro us ds s σ pins vs I r rl
  obtain ⟨as, h⟩ := Dp.readsAll I _ vs us rl.dp r
  rw [toPyL_map] at h
  exact ⟨as, h⟩
theorem all_alike {ds : List D} (h1 : alkL ds = true) (h2 : ds.all (fun d => !isNon d) = true) : PySem.W.AlikeAll (ds.map toPy) := by
  refine ⟨alkL_iff h1, fun x hx z => ?_⟩
  obtain ⟨a, ha, rfl⟩ := List.mem_map.mp hx
  have := List.all_eq_true.mp h2 a ha
  have e : a = .non := toPy_inj (z.trans (by rw [toPy]))
  subst e
  cases this
theorem min_py : ∀ (xs : List D) (x : D), toPy (minL x xs) = PySem.W.minD (toPy x) (xs.map toPy)
  | [], x => rfl
  | y :: ys, x => by
    have e : toPy (if ltb y x = true then y else x) = if PySem.W.dataLt (toPy y) (toPy x) then toPy y else toPy x := by
      unfold ltb
      split <;> rfl
    show toPy (minL (if ltb y x = true then y else x) ys) = PySem.W.minD (if PySem.W.dataLt (toPy y) (toPy x) then toPy y else toPy x) (ys.map toPy)
    rw [min_py ys, e]
theorem max_py : ∀ (xs : List D) (x : D), toPy (maxL x xs) = PySem.W.maxD (toPy x) (xs.map toPy)
  | [], x => rfl
  | y :: ys, x => by
    have e : toPy (if ltb x y = true then y else x) = if PySem.W.dataLt (toPy x) (toPy y) then toPy y else toPy x := by
      unfold ltb
      split <;> rfl
    show toPy (maxL (if ltb x y = true then y else x) ys) = PySem.W.maxD (if PySem.W.dataLt (toPy x) (toPy y) then toPy y else toPy x) (ys.map toPy)
    rw [max_py ys, e]
theorem min_mem : ∀ (xs : List D) (x : D), minL x xs ∈ x :: xs
  | [], x => List.mem_cons_self
  | y :: ys, x => by
    show minL (if ltb y x = true then y else x) ys ∈ _
    have := min_mem ys (if ltb y x = true then y else x)
    rcases List.mem_cons.mp this with e | e
    · rw [e]; split
      · exact List.mem_cons_of_mem _ List.mem_cons_self
      · exact List.mem_cons_self
    · exact List.mem_cons_of_mem _ (List.mem_cons_of_mem _ e)
theorem max_mem : ∀ (xs : List D) (x : D), maxL x xs ∈ x :: xs
  | [], x => List.mem_cons_self
  | y :: ys, x => by
    show maxL (if ltb x y = true then y else x) ys ∈ _
    have := max_mem ys (if ltb x y = true then y else x)
    rcases List.mem_cons.mp this with e | e
    · rw [e]; split
      · exact List.mem_cons_of_mem _ List.mem_cons_self
      · exact List.mem_cons_self
    · exact List.mem_cons_of_mem _ (List.mem_cons_of_mem _ e)
theorem bestG_of {sel : D → List D → D} {two : Int → Int → Int} {as : List D} {r : Res} (e : bestG sel two as = some r) :
    (∃ x xs, as = [.lst (x :: xs)] ∧ alkL (x :: xs) = true ∧ (x :: xs).all (fun d => !isNon d) = true ∧ shpL (x :: xs) = true ∧ r = .inl (sel x xs)) ∨ (∃ i j, as = [.int i, .int j] ∧ r = .inl (.int (two i j))) := by
  unfold bestG at e
  split at e
  · rename_i x xs
    by_cases h : alkL (x :: xs) = true ∧ (x :: xs).all (fun d => !isNon d) = true ∧ shpL (x :: xs) = true
    · rw [if_pos h] at e; exact .inl ⟨x, xs, rfl, h.1, h.2.1, h.2.2, (Option.some.inj e).symm⟩
    · rw [if_neg h] at e; cases e
  · exact .inr ⟨_, _, rfl, (Option.some.inj e).symm⟩
  · cases e
theorem depthAll_le {ds : List D} (h : shpL ds = true) : PyData.depthAll (ds.map toPy) ≤ 50 := by
  rw [← toPyL_map, dep_pyL]
  induction ds with
  | nil => rw [depL]; omega
  | cons d ds ih =>
    unfold shpL at h
    rw [List.all_cons, Bool.and_eq_true] at h
    have h1 : dep d ≤ 50 := of_decide_eq_true h.1
    have h2 := ih h.2
    rw [depL]; omega
/-- the item found is the one told -/
theorem best_item {pins : List (Addr × Obj)} {s : Shared} {σ : L2.St} {vs : List V} {its : List Value} {ds : List D} {sel : D} {i : Nat} {v : Value} {h' : Heap} {bs : List Addr} (I : Inv X pins σ H s) (rv : Vals vs its) (rl : RepL X.K H M vs ds) (hk : alkL ds = true) (hs : sel ∈ ds)
    (hv : its.toArray[i]? = some v) (hr : Reads h' v (toPy sel) bs) (kp : ∀ b o, s.heap.get? b = some o → h'.get? b = some o) : ∃ x, RelV x v ∧ Rep X.K H M x sel := by
  have hv' : its[i]? = some v := by simpa using hv
  have hi : i < its.length := (List.getElem?_eq_some_iff.mp hv').1
  have hiv : i < vs.length := by rw [rv.length]; exact hi
  obtain ⟨x, hx⟩ : ∃ x, vs[i]? = some x := ⟨_, List.getElem?_eq_getElem hiv⟩
  obtain ⟨u, hu, ru⟩ := rv.get hx
  rw [hv'] at hu
  cases hu
  obtain ⟨d, hd, rd⟩ := rl.get' hx
  obtain ⟨as, ra⟩ := Dp.reads I _ x v rd.dp ru
  have ra' := PyProof.Rows.Reads.keeps kp ra
  have hmem : d ∈ ds := List.mem_of_getElem? hd
  have hal : PySem.W.alike (toPy d) (toPy sel) = true := alkL_iff hk _ (List.mem_map.mpr ⟨d, hmem, rfl⟩) _ (List.mem_map.mpr ⟨sel, hs, rfl⟩)
  have e := PySem.W.alike_unique _ _ v as bs hal ra' hr
  have e2 : d = sel := toPy_inj e
  exact ⟨x, ru, by rw [← e2]; exact rd⟩
theorem c_min (hc : X.calm = true) (hu : X.A.units + 60 < cLine) : CallR X (.builtin "min") (rGN X.K minG) := by
  intro pins s σ H xs us Q I r hh
  obtain ⟨M, as, rr, dom, ra, e, q⟩ := hh
  rcases bestG_of e with ⟨x, ds, rfl, h1, h2, h3, rfl⟩ | ⟨i, j, rfl, rfl⟩
  · obtain ⟨v, rfl, rv⟩ := ra.one
    obtain ⟨p, vs, rfl, hp, rl⟩ := rv.lst
    obtain rfl := Vals.ref1 r
    obtain ⟨its, rvl, hl, hz⟩ := I.list (SqL.of (K := X.K) hp)
    obtain ⟨bs, rd⟩ := readsAll_of I rvl rl
    have hd := depthAll_le h3
    refine PySem.W.min_list_data (I.ok.hd hc) hl.isList (by simpa using rd) (all_alike h1 h2) (by rw [List.map_cons] at hd; omega) fun i v h' tk bs2 hv hr kp => ?_
    obtain ⟨z, rz, rp⟩ := best_item I rvl rl h1 (min_mem ds x) hv (by rw [min_py]; exact hr) kp
    exact ⟨z, H, I.kept kp, rz, q z H ⟨New.refl, rp⟩⟩
  · obtain ⟨v, w, rfl, r1, r2⟩ := ra.two
    cases r1.int; cases r2.int
    exact call_min2 hc pins s σ H _ us Q I r ⟨i, j, rfl, q _ H ⟨New.refl, .int _⟩⟩
theorem c_max (hc : X.calm = true) (hu : X.A.units + 60 < cLine) : CallR X (.builtin "max") (rGN X.K maxG) := by
  intro pins s σ H xs us Q I r hh
  obtain ⟨M, as, rr, dom, ra, e, q⟩ := hh
  rcases bestG_of e with ⟨x, ds, rfl, h1, h2, h3, rfl⟩ | ⟨i, j, rfl, rfl⟩
  · obtain ⟨v, rfl, rv⟩ := ra.one
    obtain ⟨p, vs, rfl, hp, rl⟩ := rv.lst
    obtain rfl := Vals.ref1 r
    obtain ⟨its, rvl, hl, hz⟩ := I.list (SqL.of (K := X.K) hp)
    obtain ⟨bs, rd⟩ := readsAll_of I rvl rl
    have hd := depthAll_le h3
    refine PySem.W.max_list_data (I.ok.hd hc) hl.isList (by simpa using rd) (all_alike h1 h2) (by rw [List.map_cons] at hd; omega) fun i v h' tk bs2 hv hr kp => ?_
    obtain ⟨z, rz, rp⟩ := best_item I rvl rl h1 (max_mem ds x) hv (by rw [max_py]; exact hr) kp
    exact ⟨z, H, I.kept kp, rz, q z H ⟨New.refl, rp⟩⟩
  · obtain ⟨v, w, rfl, r1, r2⟩ := ra.two
    cases r1.int; cases r2.int
    exact call_max2 hc pins s σ H _ us Q I r ⟨i, j, rfl, q _ H ⟨New.refl, .int _⟩⟩
/-! isinstance -/
def tyN : D → String
  | .non => "NoneType"
  | .bl _ => "bool"
  | .int _ => "int"
  | .str _ => "str"
  | .tup _ => "tuple"
  | .lst _ => "list"
def isaB (a b : String) : Bool := a == b || (a == "bool" && b == "int")
def isaG (T : String) (d : D) : Option Res := if T = "int" ∨ T = "bool" ∨ T = "str" ∨ T = "list" ∨ T = "tuple" then some (.inl (.bl (isaB (tyN d) T))) else none
theorem kit_all : ∀ a ∈ ["NoneType", "bool", "int", "str", "tuple", "list"], ∀ b ∈ ["int", "bool", "str", "list", "tuple"], kitB a b = some (isaB a b) := by decide +kernel
theorem tyx_of {x : V} {d : D} (h : RepM K H M x d) : TyX K H x (.type (tyN d)) := by
  rcases h with h | ⟨a, rfl, h⟩
  · cases h with
    | non => exact .base .non
    | bl b => exact .base (.bl b)
    | int i => exact .base (.int i)
    | str x _ => exact .base (.str x)
    | tup h1 h2 =>
      rcases h1 with q | ⟨_, o, its, n, q, c, _⟩
      · exact .base (.tup q.1)
      · exact .kTuple q c
    | lst h1 h2 => exact .base (.lst h1.1)
  · cases h with
    | lst h1 h2 => exact .base (.lst h1)
theorem tyN_mem (d : D) : tyN d ∈ ["NoneType", "bool", "int", "str", "tuple", "list"] := by cases d <;> simp [tyN]
/-- isinstance(x, T): x by its reading, T a built-in class -/
def rIsa (K : PySem.W.Frag) (T : String) : V → Hp → VK → Prop := rG1 K (isaG T)
theorem c_isa {T : String} {x : V} {H : Hp} {Q : VK} (h : rG1 X.K (isaG T) x H Q) : rIsi X.K [x, .ty T] H Q := by
  obtain ⟨M, a, r, dom, ra, e, q⟩ := h
  unfold isaG at e
  by_cases hT : T = "int" ∨ T = "bool" ∨ T = "str" ∨ T = "list" ∨ T = "tuple"
  · rw [if_pos hT] at e
    cases e
    refine ⟨x, .ty T, .type (tyN a), .type T, isaB (tyN a) T, rfl, .ty T, tyx_of ra, kit_ty (kit_all _ (tyN_mem a) _ (by simpa using hT)), q _ H ⟨New.refl, .bl _⟩⟩
  · rw [if_neg hT] at e; cases e
end
end MP

namespace MP
open PySem PySem.Spec PyProof.Rows L2

/-! ### the compiler: contexts -/
structure FnI where
  n : Nat
  io : Option Nat
  Fn : List D → Out
structure CE where
  N : List Str
  nm : List (Str × NameKind)
  blk : Option (List (Str × NameKind))
  gm : List (Str × FnI)
  cs : List (Str × D)
  bl : List Str
  sc : Option Str
  an : List (Nat × List (Nat × Bool)) := []
  lam : Bool := false
  xc : List (Str × Nat) := []
  ak : List (Str × List (Str × Str)) := []
  al : List (Str × Str) := []
  er : List Str := []
def CE.fn (E : CE) (x : Str) : Bool := match E.blk with
  | none => true
  | some ns => ns.lookup x == some .cell
/-- what a lambda made here asks -/
structure LamG (τ : LTab) (gm : List (Str × FnI)) (X : Cx) : Prop where
  gm : ∃ k, Room (k + 3) X.A ∧ ∀ x fi, gm.lookup x = some fi → ∃ f fd ps, FnOk X.prog X.w X.K X.mg X.base (L2.CX X.prog X.w) k f fd ps (spF X.mg X.K τ fi.n fi.io fi.Fn) ∧ X.mg x = some (.ref f) ∧
    PySem.W.keepIn X.K (.ref f) = true ∧ Binds X.K fd ps [] ∧ ∀ ds, fi.Fn ds ≠ .bad → ds.length = fi.n
  tb : ∃ c P, LamX.TabB X.base X.mg c P ∧ X.env.code = .ref c ∧ (P, X.env.qual ++ "<lambda>") ∈ τ ∧ ∀ p ∈ τ, p.1 = P → p.2 = X.env.qual ++ "<lambda>"
/-! errors of the program's own: what is known of their classes -/
def spIni (K : PySem.W.Frag) (C : Addr) : Sp := fun vs H Q _ => ∃ (a : Addr) (v : V), vs = [.ref a, v] ∧ H a = some (exo a C none) ∧
  ∀ (d : Addr) (fs : List (Str × V)) (H2 : Hp), H d = none → d ≠ a → H2 a = some (exo a C (some d)) → H2 d = some (exd d fs) → fs.lookup ("place" : Str) = some v → (∀ b, b ≠ a → b ≠ d → H2 b = H b) → Q .non H2
structure ErrK (P : Program) (w : World) (K : PySem.W.Frag) (mg : Str → Option Value) (base : Heap) (k : Nat) (c : Str) (C : Addr) : Prop where
  cl : mg c = some (.ref C)
  ox : OexC K C
  init : ∃ fI fd ps, PySem.W.findIn K (.ref C) "__init__" = some (some (.ref fI)) ∧ PySem.W.typeIn K (.ref fI) = some (.type "function") ∧ FnOk P w K mg base (L2.CX P w) k fI fd ps (spIni K C) ∧ Binds K fd ps []
/-- which answer a caught error is given -/
def askP (hs : List (Str × Str)) (c : Str) : Option Str := (hs.find? fun h => c == h.1 || h.1 == ("PointwrightError" : Str)).map (·.2)
/-- try: return ("told", a()) / except C as e: return (r, e.place) .. -/
def TTask (mg : Str → Option Value) (er : List Str) (hs : List (Str × Str)) : (XK → Hp → VK → Prop) → Hp → VK → Prop := fun tl H Q =>
  tl (fun cls dx H' => ∃ c C dd fs v r, c ∈ er ∧ mg c = some (.ref C) ∧ cls = .ref C ∧ dx = some dd ∧ H' dd = some (.xd fs) ∧ fs.lookup ("place" : Str) = some v ∧ askP hs c = some r ∧ PyData.strOk r = true ∧ ∀ p, H' p = none → Q (.ref p) (upd H' p (.tup [.str r, v])))
    H (fun v H' => ([V.str ("told" : Str), v] : List V).length ≤ sizeLine ∧ ∀ p, H' p = none → Q (.ref p) (upd H' p (.tup [.str ("told" : Str), v])))
def AskK (P : Program) (w : World) (K : PySem.W.Frag) (mg : Str → Option Value) (base : Heap) (er : List Str) (x : Str) (hs : List (Str × Str)) : Prop :=
  ∃ (g : Addr) (a : Str) (pg : Arguments) (bg : List Stmt) (sg : Scope) (dV kV doc pm cdv ct oc : Value) (an od : Option Addr) (osl : Array (Option Value)) (Ng : List Str), mg x = some (.ref g) ∧ PySem.W.keepIn K (.ref g) = true ∧
    K.lookup g = some ⟨oc, od, .func (PySem.W.fnOf x x pg bg sg dV kV doc pm an cdv ct), osl⟩ ∧ PySem.W.codeIn K cdv x = true ∧ L2.Binds K (PySem.W.fnOf x x pg bg sg dV kV doc pm an cdv ct) [a] [] ∧ FnScope Ng [a] sg ∧ Ng[0]? = some a ∧ Vis sg a ∧
    (a == ("__debug__" : Str)) = false ∧ (a == ("__classdict__" : Str)) = false ∧ ∀ (X : Cx), X.prog = P → X.w = w → X.K = K → X.mg = mg → X.base = base → ∀ q, LamX.GivesTo X Ng x sg g cdv bg a q (TTask mg er hs)
structure Good (τ : LTab) (E : CE) (X : Cx) (W : WX) : Prop where
  N : X.N = E.N
  nd : X.N.Nodup
  nm : X.env.scope.names = E.nm
  kd : X.env.scope.kind = .function
  calm : X.calm = true
  fn : ∀ x, E.fn x = true → X.fn x = true
  un : X.A.units + 150 < cLine
  bl : ∀ x ∈ E.bl, X.mg x = none
  cs : ∀ x d, E.cs.lookup x = some d → ∃ v u, X.mg x = some u ∧ RelV v u ∧ ∀ H M, Rep X.K H M v d
  gm : ∀ x fi, E.gm.lookup x = some fi → ∃ k f fd ps, FnOk X.prog X.w X.K X.mg X.base (L2.CX X.prog X.w) k f fd ps (spF X.mg X.K τ fi.n fi.io fi.Fn) ∧ Room k X.A ∧ X.mg x = some (.ref f) ∧
    PySem.W.keepIn X.K (.ref f) = true ∧ Binds X.K fd ps [] ∧ ∀ ds, fi.Fn ds ≠ .bad → ds.length = fi.n
  tk : Takes X W
  po : PassesOwn (model X.prog X.w) X.A X.env X.xe
  lm : E.lam = true → LamG τ E.gm X
  al : ∀ x y, E.al.lookup x = some y → ∃ f, PySem.W.nsIn X.K mainGlobals y = some (some (.ref f)) ∧ X.mg y = some (.ref f)
  er : ∀ c ∈ E.er, ∃ k C, ErrK X.prog X.w X.K X.mg X.base k c C ∧ Room (k + 1) X.A
  ak : ∀ x hs, E.ak.lookup x = some hs → AskK X.prog X.w X.K X.mg X.base E.er x hs
def ixOf (x : Str) : List Str → Option Nat
  | [] => none
  | y :: ys => if x = y then some 0 else (ixOf x ys).map (· + 1)
theorem ixOf_some {x : Str} : ∀ {N : List Str} {i : Nat}, ixOf x N = some i → N[i]? = some x
  | [], i, h => by cases h
  | y :: ys, i, h => by
    unfold ixOf at h
    by_cases e : x = y
    · rw [if_pos e] at h; cases h; rw [e]; rfl
    · rw [if_neg e] at h
      cases q : ixOf x ys with
      | none => rw [q] at h; cases h
      | some j => rw [q] at h; cases h; rw [List.getElem?_cons_succ]; exact ixOf_some q
def isV : Option NameKind → Bool
  | some .local => true
  | some .cell => true
  | some .free => true
  | _ => false
def isL : Option NameKind → Bool
  | some .local => true
  | some .cell => true
  | _ => false
def plainN (x : Str) : Bool := !(x == ("__debug__" : Str)) && !(x == ("__classdict__" : Str)) && !(x == ("__name__" : Str))
def slot (E : CE) (x : Str) : Option Nat := if isV (E.nm.lookup x) = true ∧ plainN x = true then ixOf x E.N else none
def isG' (E : CE) (x : Str) : Bool := decide (E.nm.lookup x = some .globalImplicit) && plainN x
def isB (E : CE) (x : Str) : Bool := isG' E x && decide (x ∈ E.bl)
theorem plainN_of {x : Str} (h : plainN x = true) : (x == ("__debug__" : Str)) = false ∧ (x == ("__classdict__" : Str)) = false ∧ x ≠ "__name__" := by
  unfold plainN at h
  simp only [Bool.and_eq_true, Bool.not_eq_true', beq_eq_false_iff_ne] at h
  exact ⟨beq_eq_false_iff_ne.mpr h.1.1, beq_eq_false_iff_ne.mpr h.1.2, h.2⟩
section
variable {τ : LTab} {E : CE} {X : Cx} {W : WX}
theorem Good.u60 (g : Good τ E X W) : X.A.units + 60 < cLine := by have := g.un; omega
theorem Good.slot (g : Good τ E X W) {x : Str} {i : Nat} (h : MP.slot E x = some i) : X.N[i]? = some x ∧ Vis X.env.scope x ∧ (x == ("__debug__" : Str)) = false ∧ (x == ("__classdict__" : Str)) = false := by
  unfold MP.slot at h
  by_cases c : isV (E.nm.lookup x) = true ∧ plainN x = true
  · rw [if_pos c] at h
    obtain ⟨p1, p2, _⟩ := plainN_of c.2
    refine ⟨by rw [g.N]; exact ixOf_some h, ?_, p1, p2⟩
    unfold Vis
    rw [g.nm]
    have c1 := c.1
    unfold isV at c1
    split at c1
    · rename_i e; exact .inl e
    · rename_i e; exact .inr (.inl e)
    · rename_i e; exact .inr (.inr e)
    · cases c1
  · rw [if_neg c] at h; cases h
theorem Good.gl (g : Good τ E X W) {x : Str} (h : isG' E x = true) : Gl X x ∧ (x == ("__debug__" : Str)) = false ∧ x ≠ "__name__" := by
  unfold isG' at h
  rw [Bool.and_eq_true, decide_eq_true_eq] at h
  obtain ⟨p1, p2, p3⟩ := plainN_of h.2
  refine ⟨?_, p1, p3⟩
  show X.env.scope.names.lookup x = _
  rw [g.nm]
  exact h.1
theorem Good.bi (g : Good τ E X W) {x : Str} (h : isB E x = true) : Gl X x ∧ (x == ("__debug__" : Str)) = false ∧ x ≠ "__name__" ∧ X.mg x = none := by
  unfold isB at h
  rw [Bool.and_eq_true, decide_eq_true_eq] at h
  obtain ⟨a, b, c⟩ := g.gl h.1
  exact ⟨a, b, c, g.bl x h.2⟩
abbrev Good.Wi (X : Cx) (W : WX) : WiT := WiOf X.mg X.K τ W
end

/-! ### more on readings -/
section
variable {K : PySem.W.Frag} {τ : LTab} {Wi Wi' : WiT} {σ : L2.St} {H : Hp}
theorem tOfO_mono {f : Eo} {Q Q' : VK} (h : tOfO K τ Wi f σ H Q) (hq : ∀ v H', Q v H' → Q' v H') : tOfO K τ Wi f σ H Q' := by
  obtain ⟨F, M, ρ, S, h⟩ := h
  refine ⟨F, M, ρ, S, ?_⟩
  cases q : f ρ with
  | bad => rw [q] at h; exact h
  | exc c p => rw [q] at h; exact h
  | ok x => rw [q] at h; exact fun v H' M' r S' st => hq _ _ (h v H' M' r S' st)
theorem tOf_wi {f : Ex} {Q : VK} (hw : ∀ F c p, Wi F c p → Wi' F c p) (h : tOf K τ Wi f σ H Q) : tOf K τ Wi' f σ H Q := by
  obtain ⟨F, M, ρ, S, h⟩ := h
  refine ⟨F, M, ρ, S, ?_⟩
  cases q : f ρ with
  | bad => rw [q] at h; exact h
  | exc c p => rw [q] at h; exact hw _ _ _ h
  | ok x => rw [q] at h; exact h
theorem tOfT_wi {f : Et} {Q : Bool → Hp → Prop} (hw : ∀ F c p, Wi F c p → Wi' F c p) (h : tOfT K τ Wi f σ H Q) : tOfT K τ Wi' f σ H Q := by
  obtain ⟨F, M, ρ, S, h⟩ := h
  refine ⟨F, M, ρ, S, ?_⟩
  cases q : f ρ with
  | bad => rw [q] at h; exact h
  | exc c p => rw [q] at h; exact hw _ _ _ h
  | ok x => rw [q] at h; exact h
theorem tOfG_wi {T : List Nat} {g : Tg} {v : V} {Q : L2.St → Hp → Prop} (hw : ∀ F c p, Wi F c p → Wi' F c p) (h : tOfG K τ Wi T g v σ H Q) : tOfG K τ Wi' T g v σ H Q := by
  obtain ⟨F, M, ρ, d, S, r, h⟩ := h
  refine ⟨F, M, ρ, d, S, r, ?_⟩
  cases q : g d ρ with
  | bad => rw [q] at h; exact h
  | exc c p => rw [q] at h; exact hw _ _ _ h
  | ok x => rw [q] at h; exact h
/-- a if t else b, whichever -/
def eIfM (t : Et) (a b : Em) : Em := fun ρ => (t ρ).bind fun x => if x.1 = true then a x.2 else b x.2
theorem t_ifM {t : Et} {a b : Em} {Q : VK} (h : tOfM K τ Wi (eIfM t a b) σ H Q) : tIf (tOfT K τ Wi t) (tOfM K τ Wi a) (tOfM K τ Wi b) σ H Q := by
  obtain ⟨F, M, ρ, S, h⟩ := h
  refine ⟨F, M, ρ, S, ?_⟩
  unfold eIfM at h
  cases q : t ρ with
  | bad => rw [q] at h; exact h
  | exc c p => rw [q] at h; exact h
  | ok x =>
    obtain ⟨k, ρ1⟩ := x
    rw [q, R.bind_ok] at h
    refine fun H1 M1 S1 st1 => ?_
    have go : ∀ g : Em, (match g ρ1 with
        | .bad => False
        | .exc c p => Wi F c p
        | .ok (.inl d, ρ') => ∀ v H' M', Rep K H' M' v d → SR K τ F H' M' σ ρ' → Step H M H' M' → Q v H'
        | .ok (.inr ds, ρ') => ∀ p H', NewL K τ F σ H M ρ' ds p H' → Q (.ref p) H') → tOfM K τ Wi g σ H1 Q := fun g h => by
      refine ⟨F, M1, ρ1, S1, ?_⟩
      cases q2 : g ρ1 with
      | bad => rw [q2] at h; exact h
      | exc c p => rw [q2] at h; exact h
      | ok y =>
        obtain ⟨r, ρ2⟩ := y
        rw [q2] at h
        cases r with
        | inl d => exact fun v H2 M2 r S2 st2 => h v H2 M2 r S2 (st1.trans st2)
        | inr ds => exact fun p H' nw => h p H' (by obtain ⟨H0, M0, vs, a1, a2, a3, a4, a5, a6⟩ := nw.ex; exact ⟨H0, M0, vs, a1, a2, a3, a4, a5, st1.trans a6⟩)
    cases k with
    | true => exact go a h
    | false => exact go b h
theorem t_isa {T : String} {f : Eo} {Q : VK} {X : Cx} (h : tOfM X.K τ Wi (op1M (isaG T) f) σ H Q) : tCB (rIsi X.K) (tCons (tOfO X.K τ Wi f) (tCons (tC (.ty T)) tNil)) σ H Q :=
  tOfO_mono (t_op1M h) fun v H' q => c_isa q
end
@[simp] theorem mz_pl (f : Ex) : mz (pl f) = f := by
  funext ρ
  unfold mz pl
  cases f ρ <;> rfl

/-! ### the compiler's parts -/
structure Cp where
  M : CE → Expr → Option Em
  T : CE → Expr → Option Et
  I : CE → Expr → Option Ei
  G : CE → Expr → Option (Tg × List Nat)
  S : CE → Stmt → Option Es
  L : CE → List Stmt → Option Es
structure CpOk (c : Cp) : Prop where
  M : ∀ {τ E X W e f}, Good τ E X W → c.M E e = some f → PE X e (tOfM X.K τ (WiOf X.mg X.K τ W) f)
  T : ∀ {τ E X W e f}, Good τ E X W → c.T E e = some f → PT X e (tOfT X.K τ (WiOf X.mg X.K τ W) f)
  I : ∀ {τ E X W e f}, Good τ E X W → c.I E e = some f → (∀ tg, PI X tg e (tOfI X.K τ (WiOf X.mg X.K τ W) f)) ∧ ∀ env x, foldedSetIterable e env x = pure x
  G : ∀ {τ E X W e f T0}, Good τ E X W → c.G E e = some (f, T0) → ∀ T : List Nat, (∀ i ∈ T0, i ∈ T) → PG X e (tOfG X.K τ (WiOf X.mg X.K τ W) T f)
  S : ∀ {τ E X W e f}, Good τ E X W → c.S E e = some f → PS X e (tOfS X.K τ (WiOf X.mg X.K τ W) f)
  L : ∀ {τ E X W e f}, Good τ E X W → c.L E e = some f → PSs X e (tOfS X.K τ (WiOf X.mg X.K τ W) f)
def cp0 : Cp := ⟨fun _ _ => none, fun _ _ => none, fun _ _ => none, fun _ _ => none, fun _ _ => none, fun _ _ => none⟩
theorem cp0_ok : CpOk cp0 where
  M := fun _ h => by cases h
  T := fun _ h => by cases h
  I := fun _ h => by cases h
  G := fun _ h => by cases h
  S := fun _ h => by cases h
  L := fun _ h => by cases h

def isStar : Expr → Bool
  | .Starred _ _ => true
  | _ => false
def isSet : Expr → Bool
  | .Set _ _ _ => true
  | _ => false
def isSlice : Expr → Bool
  | .Slice _ _ _ _ => true
  | _ => false
def isTup : Expr → Bool
  | .Tuple _ _ _ => true
  | _ => false
def isComp : Expr → Bool
  | .ListComp _ _ _ _ => true
  | .SetComp _ _ _ _ => true
  | .DictComp _ _ _ _ _ => true
  | _ => false
def isTst : Expr → Bool
  | .UnaryOp .Not _ _ => true
  | .BoolOp _ _ _ => true
  | .IfExp _ _ _ _ => true
  | .Compare _ _ _ _ => true
  | _ => false
theorem star_of {e : Expr} {es : List Expr} {env : Env} (h : isStar e = false) : starEach (e :: es) env = (false, eval e env) :: starEach es env := by
  cases e <;> first | rfl | cases h
theorem asg_of {e : Expr} {es : List Expr} {env : Env} (h : isStar e = false) : assignEach (e :: es) env = (false, assign e env) :: assignEach es env := by
  cases e <;> first | rfl | cases h
theorem stars_of {pos : Pos} {env : Env} : ∀ {es : List Expr}, (es.all fun e => !isStar e) = true → (backTo pos (starEach es env)).any (·.1) = false
  | [], _ => rfl
  | e :: es, h => by
    rw [List.all_cons, Bool.and_eq_true] at h
    rw [star_of (by simpa using h.1)]
    show (false || (backTo pos (starEach es env)).any (·.1)) = false
    rw [stars_of h.2]; rfl
theorem fold_of {e : Expr} {env : Env} {x : Value} (h : isSet e = false) : foldedSetIterable e env x = pure x := by
  cases e <;> first | rfl | cases h
theorem behind_of {e : Expr} {op : CmpOp} (h : isSet e = false) : behindInMarks op e = false := by
  cases e <;> first | rfl | cases h
theorem plainIx_of {e : Expr} (h : isSlice e = false) : PlainIx e := fun o i => by
  cases e <;> first | rfl | cases h
theorem true_of {e : Expr} (h : isTst e = false) {env : Env} {whole : Sem Value} : isTrue e env whole = (do let v ← whole; standAt e.pos; holding [v] (truthy v)) := by
  cases e with
  | UnaryOp op a p => cases op <;> first | rfl | cases h
  | BoolOp a b c => cases h
  | IfExp a b c d => cases h
  | Compare a b c d => cases h
  | _ => rfl

section
variable {c : Cp} {τ : LTab} {E : CE} {X : Cx} {W : WX}
def mE (c : Cp) (E : CE) (e : Expr) : Option Ex := (c.M E e).map mz
theorem mE_ok (ok : CpOk c) (g : Good τ E X W) {e : Expr} {f : Ex} (h : mE c E e = some f) : PE X e (tOf X.K τ (WiOf X.mg X.K τ W) f) := by
  unfold mE at h
  cases q : c.M E e with
  | none => rw [q] at h; cases h
  | some m => rw [q] at h; cases h; exact pe_imp (ok.M g q) fun σ H Q => t_mz
def mO (c : Cp) (E : CE) (e : Expr) : Option Eo := match e with
  | .Name x _ => match slot E x with
    | some i => some (pk i)
    | none => (mE c E e).map vo
  | _ => (mE c E e).map vo
theorem mO_ok (ok : CpOk c) (g : Good τ E X W) {e : Expr} {f : Eo} (h : mO c E e = some f) : PE X e (tOfO X.K τ (WiOf X.mg X.K τ W) f) := by
  have gen : (mE c E e).map vo = some f → PE X e (tOfO X.K τ (WiOf X.mg X.K τ W) f) := fun h => by
    cases q : mE c E e with
    | none => rw [q] at h; cases h
    | some m => rw [q] at h; cases h; exact pe_imp (mE_ok ok g q) fun σ H Q => t_vo
  unfold mO at h
  split at h
  · rename_i x p
    cases q : slot E x with
    | none => rw [q] at h; exact gen h
    | some i =>
      rw [q] at h; cases h
      obtain ⟨a1, a2, a3, a4⟩ := g.slot q
      exact pe_imp (pe_var a1 a2 a3 a4) fun σ H Q => t_pk
  · exact gen h
def mA (c : Cp) (E : CE) : List Expr → Option Ea
  | [] => some xNil
  | e :: es => if isStar e = true then none else (mE c E e).bind fun f => (mA c E es).map fun r => xCons f r
theorem mA_ok (ok : CpOk c) (g : Good τ E X W) : ∀ {es : List Expr} {f : Ea}, mA c E es = some f → PA X es (tOfA X.K τ (WiOf X.mg X.K τ W) f) ∧ (es.all fun e => !isStar e) = true
  | [], f, h => by cases h; exact ⟨pa_imp pa_nil fun σ H Q => t_aNil, rfl⟩
  | e :: es, f, h => by
    unfold mA at h
    by_cases hs : isStar e = true
    · rw [if_pos hs] at h; cases h
    · rw [if_neg hs] at h
      cases q1 : mE c E e with
      | none => rw [q1] at h; cases h
      | some f1 =>
        rw [q1, Option.bind_some] at h
        cases q2 : mA c E es with
        | none => rw [q2] at h; cases h
        | some r =>
          rw [q2] at h; cases h
          have hs' : isStar e = false := by simpa using hs
          obtain ⟨p2, s2⟩ := mA_ok ok g q2
          exact ⟨pa_imp (pa_cons (pe_imp (mE_ok ok g q1) fun σ H Q => t_vo) p2 (star_of hs')) fun σ H Q => t_aCons, by rw [List.all_cons, s2, hs']; rfl⟩
def mOs (c : Cp) (E : CE) : List Expr → Option Ea
  | [] => some xNil
  | e :: es => if isStar e = true then none else (mO c E e).bind fun f => (mOs c E es).map fun r => aCons f r
theorem mOs_ok (ok : CpOk c) (g : Good τ E X W) : ∀ {es : List Expr} {f : Ea}, mOs c E es = some f → PA X es (tOfA X.K τ (WiOf X.mg X.K τ W) f) ∧ (es.all fun e => !isStar e) = true
  | [], f, h => by cases h; exact ⟨pa_imp pa_nil fun σ H Q => t_aNil, rfl⟩
  | e :: es, f, h => by
    unfold mOs at h
    by_cases hs : isStar e = true
    · rw [if_pos hs] at h; cases h
    · rw [if_neg hs] at h
      cases q1 : mO c E e with
      | none => rw [q1] at h; cases h
      | some f1 =>
        rw [q1, Option.bind_some] at h
        cases q2 : mOs c E es with
        | none => rw [q2] at h; cases h
        | some r =>
          rw [q2] at h; cases h
          have hs' : isStar e = false := by simpa using hs
          obtain ⟨p2, s2⟩ := mOs_ok ok g q2
          exact ⟨pa_imp (pa_cons (mO_ok ok g q1) p2 (star_of hs')) fun σ H Q => t_aCons, by rw [List.all_cons, s2, hs']; rfl⟩
/-- a def's arguments: place io is lent -/
def mCs (c : Cp) (E : CE) (io : Option Nat) : Nat → List Expr → Option Ea
  | _, [] => some xNil
  | k, e :: es => if isStar e = true then none else (if io = some k then mO c E e else (mE c E e).map vo).bind fun f => (mCs c E io (k + 1) es).map fun r => aCons f r
theorem mCs_ok (ok : CpOk c) (g : Good τ E X W) {io : Option Nat} : ∀ {es : List Expr} {k : Nat} {f : Ea}, mCs c E io k es = some f → PA X es (tOfA X.K τ (WiOf X.mg X.K τ W) f) ∧ (es.all fun e => !isStar e) = true
  | [], k, f, h => by cases h; exact ⟨pa_imp pa_nil fun σ H Q => t_aNil, rfl⟩
  | e :: es, k, f, h => by
    unfold mCs at h
    by_cases hs : isStar e = true
    · rw [if_pos hs] at h; cases h
    · rw [if_neg hs] at h
      cases q1 : (if io = some k then mO c E e else (mE c E e).map vo) with
      | none => rw [q1] at h; cases h
      | some f1 =>
        rw [q1, Option.bind_some] at h
        cases q2 : mCs c E io (k + 1) es with
        | none => rw [q2] at h; cases h
        | some r =>
          rw [q2] at h; cases h
          have hs' : isStar e = false := by simpa using hs
          obtain ⟨p2, s2⟩ := mCs_ok ok g q2
          refine ⟨pa_imp (pa_cons ?_ p2 (star_of hs')) fun σ H Q => t_aCons, by rw [List.all_cons, s2, hs']; rfl⟩
          by_cases hio : io = some k
          · rw [if_pos hio] at q1; exact mO_ok ok g q1
          · rw [if_neg hio] at q1
            cases q3 : mE c E e with
            | none => rw [q3] at q1; cases q1
            | some m => rw [q3] at q1; cases q1; exact pe_imp (mE_ok ok g q3) fun σ H Q => t_vo

/-! #### constants, names -/
def cstD : Const → Option D
  | .none => some .non
  | .bool b => some (.bl b)
  | .int i => some (.int i)
  | .str x => if PyData.strOk x = true then some (.str x) else none
  | _ => none
theorem cst_ok {k : Const} {d : D} {j : Nat} {pos : Pos} {Wi : WiT} (h : cstD k = some d) : PE X (.Constant k j pos) (tOfM X.K τ Wi (pl (cst d))) := by
  unfold cstD at h
  split at h
  · cases h; exact pe_imp pe_non fun σ H Q q => t_cst (fun H M => .non) (t_pl q)
  · cases h; exact pe_imp pe_bl fun σ H Q q => t_cst (fun H M => .bl _) (t_pl q)
  · cases h; exact pe_imp pe_int fun σ H Q q => t_cst (fun H M => .int _) (t_pl q)
  · rename_i x
    by_cases hx : PyData.strOk x = true
    · rw [if_pos hx] at h; cases h; exact pe_imp pe_str fun σ H Q q => t_cst (fun H M => .str _ hx) (t_pl q)
    · rw [if_neg hx] at h; cases h
  · cases h
def mName (E : CE) (x : Str) : Option Em := match slot E x with
  | some i => some (pl (rd i))
  | none => if isG' E x = true then (E.cs.lookup x).map fun d => pl (cst d) else none
theorem mName_ok (g : Good τ E X W) {x : Str} {f : Em} {pos : Pos} (h : mName E x = some f) : PE X (.Name x pos) (tOfM X.K τ (WiOf X.mg X.K τ W) f) := by
  unfold mName at h
  cases q : slot E x with
  | some i =>
    rw [q] at h; cases h
    obtain ⟨a1, a2, a3, a4⟩ := g.slot q
    exact pe_imp (pe_var a1 a2 a3 a4) fun σ H Q q => t_rd (t_pl q)
  | none =>
    rw [q] at h
    dsimp only at h
    by_cases hg : isG' E x = true
    · rw [if_pos hg] at h
      cases q2 : E.cs.lookup x with
      | none => rw [q2] at h; cases h
      | some d =>
        rw [q2] at h; cases h
        obtain ⟨v, u, h1, h2, h3⟩ := g.cs x d q2
        obtain ⟨b1, b2, _⟩ := g.gl hg
        exact pe_imp (pe_glob b1 h1 h2 b2) fun σ H Q q => t_cst h3 (t_pl q)
    · rw [if_neg hg] at h; cases h

/-! #### operations -/
def binG : Operator → Option (D → D → Option Res)
  | .Add => some addG
  | .Sub => some subG
  | .Mult => some mulG
  | .FloorDiv => some divG
  | .Mod => some modG
  | .Pow => some powG
  | _ => none
theorem binG_ok {op : Operator} {g : D → D → Option Res} (h : binG op = some g) : OpR X (binaryOp op) (rG2 X.K g) := by
  cases op <;> first | (cases h; first | exact o_add | exact o_sub | exact o_mul | exact o_div | exact o_mod | exact o_pow) | cases h
def cmpB : CmpOp → D → D → Option Bool
  | .Eq => eqG
  | .NotEq => neG
  | .Lt => ltG
  | .LtE => leG
  | .Gt => gtG
  | .GtE => geG
  | .Is => isG
  | .IsNot => nisG
  | .In => inG
  | .NotIn => ninG
theorem cmpB_ok (hu : X.A.units + 60 < cLine) (op : CmpOp) : OpR X (compareOp op) (rG2 X.K (blM (cmpB op))) := by
  cases op
  · exact o_eq hu
  · exact o_ne hu
  · exact o_lt hu
  · exact o_le hu
  · exact o_gt hu
  · exact o_ge hu
  · exact o_is
  · exact o_nis
  · exact o_in hu
  · exact o_nin hu
def mBin (c : Cp) (E : CE) (a : Expr) (op : Operator) (b : Expr) : Option Em := (binG op).bind fun g => (mO c E a).bind fun f1 => (mO c E b).map fun f2 => op2M g f1 f2
theorem mBin_ok (ok : CpOk c) (g : Good τ E X W) {a b : Expr} {op : Operator} {f : Em} {pos : Pos} (h : mBin c E a op b = some f) : PE X (.BinOp a op b pos) (tOfM X.K τ (WiOf X.mg X.K τ W) f) := by
  unfold mBin at h
  cases q1 : binG op with
  | none => rw [q1] at h; cases h
  | some gg =>
    rw [q1, Option.bind_some] at h
    cases q2 : mO c E a with
    | none => rw [q2] at h; cases h
    | some f1 =>
      rw [q2, Option.bind_some] at h
      cases q3 : mO c E b with
      | none => rw [q3] at h; cases h
      | some f2 =>
        rw [q3] at h; cases h
        exact pe_imp (pe_op (binG_ok q1) (mO_ok ok g q2) (mO_ok ok g q3)) fun σ H Q => t_op2M
def mCmp (c : Cp) (E : CE) (a : Expr) : List CmpOp → List Expr → Option Em
  | [op], [b] => if isSet b = true then none else (mO c E a).bind fun f1 => (mO c E b).map fun f2 => op2M (blM (cmpB op)) f1 f2
  | [op, op'], [b, d] => if isSet d = true then none else (mO c E a).bind fun f1 => (mO c E b).bind fun f2 => (mO c E d).map fun f3 => pl (chnM (cmpB op) (cmpB op') f1 f2 f3)
  | _, _ => none
theorem mCmp_ok (ok : CpOk c) (g : Good τ E X W) {a : Expr} {ops : List CmpOp} {bs : List Expr} {f : Em} {pos : Pos} (h : mCmp c E a ops bs = some f) : PE X (.Compare a ops bs pos) (tOfM X.K τ (WiOf X.mg X.K τ W) f) := by
  unfold mCmp at h
  split at h
  · rename_i op b
    by_cases hs : isSet b = true
    · rw [if_pos hs] at h; cases h
    · rw [if_neg hs] at h
      cases q2 : mO c E a with
      | none => rw [q2] at h; cases h
      | some f1 =>
        rw [q2, Option.bind_some] at h
        cases q3 : mO c E b with
        | none => rw [q3] at h; cases h
        | some f2 =>
          rw [q3] at h; cases h
          exact pe_imp (pe_cmpR (cmpB_ok g.u60 op) (mO_ok ok g q2) (mO_ok ok g q3) (behind_of (by simpa using hs))) fun σ H Q => t_op2M
  · rename_i op op' b d
    by_cases hs : isSet d = true
    · rw [if_pos hs] at h; cases h
    · rw [if_neg hs] at h
      cases q2 : mO c E a with
      | none => rw [q2] at h; cases h
      | some f1 =>
        rw [q2, Option.bind_some] at h
        cases q3 : mO c E b with
        | none => rw [q3] at h; cases h
        | some f2 =>
          rw [q3, Option.bind_some] at h
          cases q4 : mO c E d with
          | none => rw [q4] at h; cases h
          | some f3 =>
            rw [q4] at h; cases h
            exact pe_imp (pe_chain (cmpB_ok g.u60 op) (cmpB_ok g.u60 op') (mO_ok ok g q2) (mO_ok ok g q3) (mO_ok ok g q4) (show behindInMarks op' d = false from behind_of (by simpa using hs))) fun σ H Q q => t_chnM (t_pl q)
  · cases h
def mBool (c : Cp) (E : CE) (op : BoolOp) (pos : Pos) : List Expr → Option Em
  | [a] => c.M E a
  | a :: b :: r => match op with
    | .And => (mE c E a).bind fun f => (mE c E (.BoolOp .And (b :: r) pos)).map fun g => pl (eAnd f g)
    | .Or => (mE c E a).bind fun f => (mE c E (.BoolOp .Or (b :: r) pos)).map fun g => pl (eOr f g)
  | [] => none
theorem mBool_ok (ok : CpOk c) (g : Good τ E X W) {op : BoolOp} {vs : List Expr} {f : Em} {pos : Pos} (h : mBool c E op pos vs = some f) : PE X (.BoolOp op vs pos) (tOfM X.K τ (WiOf X.mg X.K τ W) f) := by
  unfold mBool at h
  split at h
  · exact pe_one (ok.M g h)
  · rename_i a b r
    cases op with
    | And =>
      cases q1 : mE c E a with
      | none => rw [q1] at h; cases h
      | some f1 =>
        rw [q1] at h
        cases q2 : mE c E (.BoolOp .And (b :: r) pos) with
        | none => rw [q2] at h; cases h
        | some f2 =>
          rw [q2] at h; cases h
          exact pe_imp (pe_and (mE_ok ok g q1) (mE_ok ok g q2)) fun σ H Q q => t_eAnd (t_pl q)
    | Or =>
      cases q1 : mE c E a with
      | none => rw [q1] at h; cases h
      | some f1 =>
        rw [q1] at h
        cases q2 : mE c E (.BoolOp .Or (b :: r) pos) with
        | none => rw [q2] at h; cases h
        | some f2 =>
          rw [q2] at h; cases h
          exact pe_imp (pe_or (mE_ok ok g q1) (mE_ok ok g q2)) fun σ H Q q => t_eOr (t_pl q)
  · cases h
def negG : D → Option Res
  | .int i => some (.inl (.int (-i)))
  | _ => none
theorem u_neg : UnR X (unaryOp .USub) (rG1 X.K negG) := by
  intro pins s σ H x v Q I rx hh
  obtain ⟨M, a, r, dom, ra, e, q⟩ := hh
  unfold negG at e
  split at e
  · cases e
    cases ra.int
    exact un_neg pins s σ H _ v Q I rx ⟨_, rfl, q _ H ⟨New.refl, .int _⟩⟩
  · cases e
def mUn (c : Cp) (E : CE) (op : UnaryOp) (a : Expr) : Option Em := match op with
  | .Not => (mE c E a).map fun f => pl (eNot f)
  | .USub => (mO c E a).map fun f => op1M negG f
  | _ => none
theorem mUn_ok (ok : CpOk c) (g : Good τ E X W) {op : UnaryOp} {a : Expr} {f : Em} {pos : Pos} (h : mUn c E op a = some f) : PE X (.UnaryOp op a pos) (tOfM X.K τ (WiOf X.mg X.K τ W) f) := by
  cases op with
  | Not =>
    have h : (mE c E a).map (fun f => pl (eNot f)) = some f := h
    cases q1 : mE c E a with
    | none => rw [q1] at h; cases h
    | some f1 => rw [q1] at h; cases h; exact pe_imp (pe_not (mE_ok ok g q1)) fun σ H Q q => t_eNot (t_pl q)
  | USub =>
    have h : (mO c E a).map (fun f => op1M negG f) = some f := h
    cases q1 : mO c E a with
    | none => rw [q1] at h; cases h
    | some f1 => rw [q1] at h; cases h; exact pe_imp (pe_un u_neg (mO_ok ok g q1)) fun σ H Q => t_op1M
  | _ => cases h
def mIf (c : Cp) (E : CE) (t a b : Expr) : Option Em := (c.T E t).bind fun ft => (c.M E a).bind fun fa => (c.M E b).map fun fb => eIfM ft fa fb
theorem mIf_ok (ok : CpOk c) (g : Good τ E X W) {t a b : Expr} {f : Em} {pos : Pos} (h : mIf c E t a b = some f) : PE X (.IfExp t a b pos) (tOfM X.K τ (WiOf X.mg X.K τ W) f) := by
  unfold mIf at h
  cases q1 : c.T E t with
  | none => rw [q1] at h; cases h
  | some ft =>
    rw [q1, Option.bind_some] at h
    cases q2 : c.M E a with
    | none => rw [q2] at h; cases h
    | some fa =>
      rw [q2, Option.bind_some] at h
      cases q3 : c.M E b with
      | none => rw [q3] at h; cases h
      | some fb =>
        rw [q3] at h; cases h
        exact pe_imp (pe_ifExp (ok.T g q1) (ok.M g q2) (ok.M g q3)) fun σ H Q => t_ifM
def mTup (c : Cp) (E : CE) (es : List Expr) : Option Em := (mA c E es).map fun f => pl (dsp .tup f)
theorem mTup_ok (ok : CpOk c) (g : Good τ E X W) {es : List Expr} {f : Em} {k : Nat} {pos : Pos} (h : mTup c E es = some f) : PE X (.Tuple es k pos) (tOfM X.K τ (WiOf X.mg X.K τ W) f) := by
  unfold mTup at h
  cases q1 : mA c E es with
  | none => rw [q1] at h; cases h
  | some f1 => rw [q1] at h; cases h; exact pe_imp (pe_tup (mA_ok ok g q1).1) fun σ H Q q => t_tup (t_pl q)
def mLst (c : Cp) (E : CE) (es : List Expr) : Option Em := (mA c E es).map fun f => nw (dspF f)
theorem mLst_ok (ok : CpOk c) (g : Good τ E X W) {es : List Expr} {f : Em} {pos : Pos} (h : mLst c E es = some f) : PE X (.List es pos) (tOfM X.K τ (WiOf X.mg X.K τ W) f) := by
  unfold mLst at h
  cases q1 : mA c E es with
  | none => rw [q1] at h; cases h
  | some f1 => rw [q1] at h; cases h; exact pe_imp (pe_lst (mA_ok ok g q1).1) fun σ H Q q => t_lstF (t_nw q)
def mPart (c : Cp) (E : CE) : Option Expr → Option Ep
  | none => some pN
  | some e => (mO c E e).map pS
theorem mPart_ok (ok : CpOk c) (g : Good τ E X W) {e : Option Expr} {f : Ep} (h : mPart c E e = some f) : PO X e (tOfP X.K τ (WiOf X.mg X.K τ W) f) := by
  cases e with
  | none => cases h; exact ⟨fun pins s σ H Q I q => po_none.run pins s σ H Q I (t_pN q)⟩
  | some e =>
    have h : (mO c E e).map pS = some f := h
    cases q : mO c E e with
    | none => rw [q] at h; cases h
    | some f1 => rw [q] at h; cases h; exact ⟨fun pins s σ H Q I q1 => (po_some (mO_ok ok g q)).run pins s σ H Q I (t_pS q1)⟩
def mSub (c : Cp) (E : CE) (a b : Expr) : Option Em := match b with
  | .Slice lo hi none _ => (mO c E a).bind fun f => (mPart c E lo).bind fun l => (mPart c E hi).map fun u => slM f l u
  | .Slice _ _ (some _) _ => none
  | _ => (mO c E a).bind fun f1 => (mO c E b).map fun f2 => op2M ixG f1 f2
theorem mSub_ok (ok : CpOk c) (g : Good τ E X W) {a b : Expr} {f : Em} {pos : Pos} (h : mSub c E a b = some f) : PE X (.Subscript a b pos) (tOfM X.K τ (WiOf X.mg X.K τ W) f) := by
  unfold mSub at h
  split at h
  · rename_i lo hi p
    cases q1 : mO c E a with
    | none => rw [q1] at h; cases h
    | some f1 =>
      rw [q1, Option.bind_some] at h
      cases q2 : mPart c E lo with
      | none => rw [q2] at h; cases h
      | some l =>
        rw [q2, Option.bind_some] at h
        cases q3 : mPart c E hi with
        | none => rw [q3] at h; cases h
        | some u =>
          rw [q3] at h; cases h
          exact pe_imp (pe_slice o_sl (mO_ok ok g q1) (mPart_ok ok g q2) (mPart_ok ok g q3)) fun σ H Q => t_slM
  · cases h
  · rename_i n1 n2
    have hs : isSlice b = false := by
      cases b with
      | Slice lo hi st p =>
        cases st with
        | none => exact absurd rfl (n1 _ _ _)
        | some e => exact absurd rfl (n2 _ _ _ _)
      | _ => rfl
    cases q1 : mO c E a with
    | none => rw [q1] at h; cases h
    | some f1 =>
      rw [q1, Option.bind_some] at h
      cases q2 : mO c E b with
      | none => rw [q2] at h; cases h
      | some f2 =>
        rw [q2] at h; cases h
        exact pe_imp (pe_ix o_ix (mO_ok ok g q1) (mO_ok ok g q2) (plainIx_of hs)) fun σ H Q => t_op2M
end
end MP

namespace MP
open PySem PySem.Spec PyProof.Rows L2

/-! #### built-ins by name -/
def bFn (x : Str) : Option (Sum String String × (List D → Option Res)) :=
  if x = "len" then some (.inl "len", lenG) else
  if x = "abs" then some (.inl "abs", absG) else
  if x = "sum" then some (.inl "sum", sumG) else
  if x = "all" then some (.inl "all", allG) else
  if x = "any" then some (.inl "any", anyG) else
  if x = "min" then some (.inl "min", minG) else
  if x = "max" then some (.inl "max", maxG) else
  if x = "sorted" then some (.inl "sorted", sortG) else
  if x = "int" then some (.inr "int", intG) else
  if x = "list" then some (.inr "list", listG) else
  if x = "tuple" then some (.inr "tuple", tupG) else none
def bVal : Sum String String → Value
  | .inl id => .builtin id
  | .inr T => .type T
theorem boot_len' : bootBuiltins "len" = some (.builtin "len") := by decide +kernel
theorem boot_abs' : bootBuiltins "abs" = some (.builtin "abs") := by decide +kernel
theorem boot_sum' : bootBuiltins "sum" = some (.builtin "sum") := by decide +kernel
theorem boot_all' : bootBuiltins "all" = some (.builtin "all") := by decide +kernel
theorem boot_any' : bootBuiltins "any" = some (.builtin "any") := by decide +kernel
theorem boot_min' : bootBuiltins "min" = some (.builtin "min") := by decide +kernel
theorem boot_max' : bootBuiltins "max" = some (.builtin "max") := by decide +kernel
theorem boot_sorted' : bootBuiltins "sorted" = some (.builtin "sorted") := by decide +kernel
theorem boot_isi' : bootBuiltins "isinstance" = some (.builtin "isinstance") := by decide +kernel
theorem boot_int' : bootBuiltins "int" = some (.type "int") := by decide +kernel
theorem boot_bool' : bootBuiltins "bool" = some (.type "bool") := by decide +kernel
theorem boot_str' : bootBuiltins "str" = some (.type "str") := by decide +kernel
theorem boot_list' : bootBuiltins "list" = some (.type "list") := by decide +kernel
theorem boot_tuple' : bootBuiltins "tuple" = some (.type "tuple") := by decide +kernel
def tyS (x : Str) : Option String :=
  if x = "int" then some "int" else
  if x = "bool" then some "bool" else
  if x = "str" then some "str" else
  if x = "list" then some "list" else
  if x = "tuple" then some "tuple" else none
theorem tyS_ok {x : Str} {T : String} (h : tyS x = some T) : bootBuiltins x = some (.type T) := by
  unfold tyS at h
  split at h
  · rename_i e; subst e; cases h; exact boot_int'
  split at h
  · rename_i e; subst e; cases h; exact boot_bool'
  split at h
  · rename_i e; subst e; cases h; exact boot_str'
  split at h
  · rename_i e; subst e; cases h; exact boot_list'
  split at h
  · rename_i e; subst e; cases h; exact boot_tuple'
  · cases h
theorem bFn_ok {X : Cx} (hc : X.calm = true) (hu : X.A.units + 60 < cLine) {x : Str} {v : Sum String String} {g : List D → Option Res} (h : bFn x = some (v, g)) : bootBuiltins x = some (bVal v) ∧ CallR X (bVal v) (rGN X.K g) := by
  unfold bFn at h
  split at h
  · rename_i e; subst e; cases h; exact ⟨boot_len', c_len⟩
  split at h
  · rename_i e; subst e; cases h; exact ⟨boot_abs', c_abs⟩
  split at h
  · rename_i e; subst e; cases h; exact ⟨boot_sum', c_sum hc⟩
  split at h
  · rename_i e; subst e; cases h; exact ⟨boot_all', c_all hc⟩
  split at h
  · rename_i e; subst e; cases h; exact ⟨boot_any', c_any hc⟩
  split at h
  · rename_i e; subst e; cases h; exact ⟨boot_min', c_min hc hu⟩
  split at h
  · rename_i e; subst e; cases h; exact ⟨boot_max', c_max hc hu⟩
  split at h
  · rename_i e; subst e; cases h; exact ⟨boot_sorted', c_sorted hu⟩
  split at h
  · rename_i e; subst e; cases h; exact ⟨boot_int', c_int⟩
  split at h
  · rename_i e; subst e; cases h; exact ⟨boot_list', c_list⟩
  split at h
  · rename_i e; subst e; cases h; exact ⟨boot_tuple', c_tuple⟩
  · cases h

section
variable {c : Cp} {τ : LTab} {E : CE} {X : Cx} {W : WX}
/-! #### calls -/
theorem mCall_own (ok : CpOk c) (g : Good τ E X W) {x : Str} {fi : FnI} (hg : isG' E x = true) (hf : E.gm.lookup x = some fi) {es : List Expr} {fs : Ea} (h : mCs c E fi.io 0 es = some fs) {p pos : Pos} :
    PE X (.Call (.Name x p) es [] pos) (tOfM X.K τ (WiOf X.mg X.K τ W) (pl (eCall fi.io fi.Fn fs))) := by
  obtain ⟨k, f, fd, ps, F, hr, hm, hk, hb, hn⟩ := g.gm x fi hf
  obtain ⟨b1, b2, _⟩ := g.gl hg
  have hx := passes_call g.tk (E := fun cls d H => ∀ σ', W cls d σ' H) fun cls d σ H h => h σ
  cases es with
  | nil =>
    cases h
    exact pe_imp (pe_call0 F hr b1 hm hk hb .nil hx b2) fun σ H Q q => t_aNil (t_eCall hn (t_pl q))
  | cons e es =>
    obtain ⟨ha, hs⟩ := mCs_ok ok g h
    rw [List.all_cons, Bool.and_eq_true] at hs
    have hs1 : isStar e = false := by simpa using hs.1
    exact pe_imp (pe_call F hr b1 hm hk hb .nil hx ha b2 (star_of hs1) (stars_of hs.2)) fun σ H Q q => t_eCall hn (t_pl q)
def mIsa (c : Cp) (E : CE) : List Expr → Option Em
  | [e, .Name T _] => if isB E T = true ∧ isStar e = false then (tyS T).bind fun t => (mO c E e).map fun f => op1M (isaG t) f else none
  | _ => none
theorem mIsa_ok (ok : CpOk c) (g : Good τ E X W) {es : List Expr} {f : Em} {p pos : Pos} (hb : isB E "isinstance" = true) (h : mIsa c E es = some f) : PE X (.Call (.Name "isinstance" p) es [] pos) (tOfM X.K τ (WiOf X.mg X.K τ W) f) := by
  unfold mIsa at h
  split at h
  · rename_i e T pT
    by_cases hc : isB E T = true ∧ isStar e = false
    · rw [if_pos hc] at h
      cases q1 : tyS T with
      | none => rw [q1] at h; cases h
      | some t =>
        rw [q1, Option.bind_some] at h
        cases q2 : mO c E e with
        | none => rw [q2] at h; cases h
        | some f1 =>
          rw [q2] at h; cases h
          obtain ⟨a1, a2, a3, a4⟩ := g.bi hb
          obtain ⟨b1, b2, b3, b4⟩ := g.bi hc.1
          have pT' : PE X (.Name T pT) (tC (.ty t)) := pe_bltn b1 b4 (tyS_ok q1) rfl b3 b2
          exact pe_imp (pe_callB call_isi a1 a4 boot_isi' (pa_cons (mO_ok ok g q2) (pa_cons pT' pa_nil) (star_of hc.2)) a3 a2 (star_of hc.2) rfl) fun σ H Q q => t_isa q
    · rw [if_neg hc] at h; cases h
  · cases h
/-- list(script) -/
def lsSc (i : Nat) : Em := fun ρ => match ρ[i]? with
  | some (.sc ns) => .ok (.inr (ns.map D.int), ρ)
  | _ => .bad
theorem t_lsSc {K : PySem.W.Frag} {τ : LTab} {Wi : WiT} {i : Nat} {σ : L2.St} {H : Hp} {Q : VK} (h : tOfM K τ Wi (lsSc i) σ H Q) : tCB (fun xs H Q => ∃ p ys, xs = [.ref p] ∧ (SqL K H p ys ∨ SqT K H p ys) ∧ ∀ l, H l = none → Q (.ref l) (upd H l (.lst ys))) (tCons (tVar i) tNil) σ H Q := by
  obtain ⟨F, M, ρ, S, h⟩ := h
  unfold lsSc at h
  have s := S.sl i
  cases q : ρ[i]? with
  | none => rw [q] at h; exact h.elim
  | some x =>
    rw [q] at h s
    cases x with
    | sc ns =>
      generalize hx : σ[i]? = sx at s
      cases s with
      | @sc a _ hs =>
        exact ⟨.ref a, hx, a, ns.map V.int, rfl, .inl (SqL.ofScr hs), fun l hl => h l _ ⟨H, M, _, S, hl, New.upd hl, upd_same, repL_ints ns, Step.refl⟩⟩
    | _ => exact h.elim
def mSc (E : CE) (x : Str) : List Expr → Option Em
  | [.Name y _] => if x = "list" ∧ E.sc = some y ∧ isB E x = true then (slot E y).map lsSc else none
  | _ => none
theorem mSc_ok (g : Good τ E X W) {x : Str} {es : List Expr} {f : Em} {p pos : Pos} (h : mSc E x es = some f) : PE X (.Call (.Name x p) es [] pos) (tOfM X.K τ (WiOf X.mg X.K τ W) f) := by
  unfold mSc at h
  split at h
  · rename_i y py
    by_cases hc : x = "list" ∧ E.sc = some y ∧ isB E x = true
    · rw [if_pos hc] at h
      obtain ⟨e1, _, hb⟩ := hc
      subst e1
      cases q : slot E y with
      | none => rw [q] at h; cases h
      | some i =>
        rw [q] at h; cases h
        obtain ⟨a1, a2, a3, a4⟩ := g.bi hb
        obtain ⟨b1, b2, b3, b4⟩ := g.slot q
        exact pe_imp (pe_callTy call_list_of a1 a4 boot_list' (pa_cons (pe_var b1 b2 b3 b4) pa_nil) a3 a2) fun σ H Q => t_lsSc
    · rw [if_neg hc] at h; cases h
  · cases h
def mCall1 (c : Cp) (E : CE) (x : Str) (es : List Expr) : Option Em := match E.gm.lookup x with
  | some fi => if isG' E x = true then (mCs c E fi.io 0 es).map fun fs => pl (eCall fi.io fi.Fn fs) else none
  | none => if isB E x = true then (if x = "isinstance" then mIsa c E es else (bFn x).bind fun v => match es with
      | [] => none
      | e :: es => (mOs c E (e :: es)).map fun fs => opNM v.2 fs) else none
theorem mCall1_ok (ok : CpOk c) (g : Good τ E X W) {x : Str} {es : List Expr} {f : Em} {p pos : Pos} (h : mCall1 c E x es = some f) : PE X (.Call (.Name x p) es [] pos) (tOfM X.K τ (WiOf X.mg X.K τ W) f) := by
  unfold mCall1 at h
  cases q1 : E.gm.lookup x with
  | some fi =>
    rw [q1] at h
    dsimp only at h
    by_cases hg : isG' E x = true
    · rw [if_pos hg] at h
      cases q2 : mCs c E fi.io 0 es with
      | none => rw [q2] at h; cases h
      | some fs => rw [q2] at h; cases h; exact mCall_own ok g hg q1 q2
    · rw [if_neg hg] at h; cases h
  | none =>
    rw [q1] at h
    dsimp only at h
    by_cases hb : isB E x = true
    · rw [if_pos hb] at h
      by_cases hi : x = "isinstance"
      · rw [if_pos hi] at h; subst hi; exact mIsa_ok ok g hb h
      · rw [if_neg hi] at h
        cases q2 : bFn x with
        | none => rw [q2] at h; cases h
        | some v =>
          obtain ⟨v, gg⟩ := v
          rw [q2, Option.bind_some] at h
          cases es with
          | nil => cases h
          | cons e es =>
            dsimp only at h
            cases q3 : mOs c E (e :: es) with
            | none => rw [q3] at h; cases h
            | some fs =>
              rw [q3] at h; cases h
              obtain ⟨a1, a2, a3, a4⟩ := g.bi hb
              obtain ⟨b1, b2⟩ := bFn_ok g.calm g.u60 q2
              obtain ⟨ha, hs⟩ := mOs_ok ok g q3
              rw [List.all_cons, Bool.and_eq_true] at hs
              have hs1 : isStar e = false := by simpa using hs.1
              cases v with
              | inl id => exact pe_imp (pe_callB b2 a1 a4 b1 ha a3 a2 (star_of hs1) (stars_of hs.2)) fun σ H Q => t_opNM
              | inr T => exact pe_imp (pe_callTy b2 a1 a4 b1 ha a3 a2 (star_of hs1) (stars_of hs.2)) fun σ H Q => t_opNM
    · rw [if_neg hb] at h; cases h
def mCall (c : Cp) (E : CE) (x : Str) (es : List Expr) : Option Em := match mSc E x es with
  | some f => some f
  | none => mCall1 c E x es
theorem mCall_ok (ok : CpOk c) (g : Good τ E X W) {x : Str} {es : List Expr} {f : Em} {p pos : Pos} (h : mCall c E x es = some f) : PE X (.Call (.Name x p) es [] pos) (tOfM X.K τ (WiOf X.mg X.K τ W) f) := by
  unfold mCall at h
  cases q : mSc E x es with
  | some f1 => rw [q] at h; cases h; exact mSc_ok g q
  | none => rw [q] at h; exact mCall1_ok ok g h
/-! #### methods of lists -/
def mMeth (c : Cp) (E : CE) (o m : Str) (l1 l2 : Nat) (es : List Expr) : Option Em := (slot E o).bind fun i => if (l1 == l2) = true then (match es with
  | [] => if m = "pop" then some (pl (mPop i)) else none
  | [e] => if m = "append" ∧ isStar e = false then (mE c E e).map fun f => pl (mApp i f) else none
  | [a, b] => if m = "insert" ∧ isStar a = false ∧ isStar b = false then (mE c E a).bind fun f => (mE c E b).map fun g => pl (mIns i f g) else none
  | _ => none) else none
theorem mMeth_ok (ok : CpOk c) (g : Good τ E X W) {o m : Str} {es : List Expr} {f : Em} {p ap pos : Pos} (h : mMeth c E o m ap.endLine pos.line es = some f) : PE X (.Call (.Attribute (.Name o p) m ap) es [] pos) (tOfM X.K τ (WiOf X.mg X.K τ W) f) := by
  unfold mMeth at h
  cases q1 : slot E o with
  | none => rw [q1] at h; cases h
  | some i =>
    rw [q1, Option.bind_some] at h
    obtain ⟨a1, a2, a3, a4⟩ := g.slot q1
    have po : PE X (.Name o p) (tVar i) := pe_var a1 a2 a3 a4
    by_cases hl : (ap.endLine == pos.line) = true
    · rw [if_pos hl] at h
      split at h
      · by_cases hm : m = "pop"
        · rw [if_pos hm] at h; subst hm; cases h
          exact pe_imp (pe_bm0 F.plainAttrs_list F.slot_list_pop rfl mt_pop po rfl hl) fun σ H Q q => t_mPop (t_pl q)
        · rw [if_neg hm] at h; cases h
      · rename_i e
        by_cases hm : m = "append" ∧ isStar e = false
        · rw [if_pos hm] at h
          obtain ⟨hm, hs⟩ := hm
          subst hm
          cases q2 : mE c E e with
          | none => rw [q2] at h; cases h
          | some f1 =>
            rw [q2] at h; cases h
            exact pe_imp (pe_bm F.plainAttrs_list F.slot_list_append rfl mt_append po (pa_cons (mE_ok ok g q2) pa_nil (star_of hs)) rfl (by rw [star_of hs]; rfl) hl (star_of hs) rfl) fun σ H Q q => t_mApp (t_pl q)
        · rw [if_neg hm] at h; cases h
      · rename_i a b
        by_cases hm : m = "insert" ∧ isStar a = false ∧ isStar b = false
        · rw [if_pos hm] at h
          obtain ⟨hm, hs1, hs2⟩ := hm
          subst hm
          cases q2 : mE c E a with
          | none => rw [q2] at h; cases h
          | some f1 =>
            rw [q2, Option.bind_some] at h
            cases q3 : mE c E b with
            | none => rw [q3] at h; cases h
            | some f2 =>
              rw [q3] at h; cases h
              exact pe_imp (pe_bm F.plainAttrs_list F.slot_list_insert rfl mt_insert po (pa_cons (mE_ok ok g q2) (pa_cons (mE_ok ok g q3) pa_nil (star_of hs2)) (star_of hs1)) rfl (by rw [star_of hs1, star_of hs2]; rfl) hl (star_of hs1) (by rw [star_of hs2]; rfl)) fun σ H Q q => t_mIns (t_pl q)
        · rw [if_neg hm] at h; cases h
      · cases h
    · rw [if_neg hl] at h; cases h

/-! #### what is walked -/
def mIt (c : Cp) (E : CE) : Expr → Option Ei
  | .Call (.Name x p) es [] pos => if x = "range" ∧ isB E x = true ∧ E.gm.lookup x = none then (match es with
      | [a] => (mOs c E [a]).map fun f => itR ints1 f
      | [a, b] => (mOs c E [a, b]).map fun f => itR ints2 f
      | _ => none) else (mE c E (.Call (.Name x p) es [] pos)).map itV
  | e => if isSet e = true then none else (mE c E e).map itV
theorem pi_imp {wi wi' : TI} {tg e : Expr} (h : PI X tg e wi) (hh : ∀ σ H R, wi' σ H R → wi σ H R) : PI X tg e wi' := ⟨fun pins s σ H R I q => h.run pins s σ H R I (hh σ H R q)⟩
theorem mIt_ok (ok : CpOk c) (g : Good τ E X W) {e : Expr} {f : Ei} (h : mIt c E e = some f) : (∀ tg, PI X tg e (tOfI X.K τ (WiOf X.mg X.K τ W) f)) ∧ ∀ env x, foldedSetIterable e env x = pure x := by
  have gen : ∀ {e : Expr}, (mE c E e).map itV = some f → ∀ tg, PI X tg e (tOfI X.K τ (WiOf X.mg X.K τ W) f) := fun {e} h tg => by
    cases q : mE c E e with
    | none => rw [q] at h; cases h
    | some m => rw [q] at h; cases h; exact pi_imp (pi_seq (mE_ok ok g q)) fun σ H R => t_itV
  unfold mIt at h
  split at h
  · rename_i x p es pos
    refine ⟨?_, fun env x => fold_of rfl⟩
    by_cases hx : x = "range" ∧ isB E x = true ∧ E.gm.lookup x = none
    · rw [if_pos hx] at h
      obtain ⟨e1, hb, _⟩ := hx
      subst e1
      obtain ⟨a1, a2, a3, a4⟩ := g.bi hb
      split at h
      · rename_i a
        cases q : mOs c E [a] with
        | none => rw [q] at h; cases h
        | some fs =>
          rw [q] at h; cases h
          obtain ⟨ha, hs⟩ := mOs_ok ok g q
          simp only [List.all_cons, Bool.and_eq_true, Bool.not_eq_true'] at hs
          exact fun tg => pi_imp (pi_range1 a1 a4 ha (by rw [star_of hs.1]; rfl)) fun σ H R => t_itR1
      · rename_i a b
        cases q : mOs c E [a, b] with
        | none => rw [q] at h; cases h
        | some fs =>
          rw [q] at h; cases h
          obtain ⟨ha, hs⟩ := mOs_ok ok g q
          simp only [List.all_cons, Bool.and_eq_true, Bool.not_eq_true'] at hs
          exact fun tg => pi_imp (pi_range2 a1 a4 ha (by rw [star_of hs.1, star_of hs.2.1]; rfl) (by rw [star_of hs.2.1]; rfl)) fun σ H R => t_itR2
      · cases h
    · rw [if_neg hx] at h
      exact gen h
  · by_cases hs : isSet e = true
    · rw [if_pos hs] at h; cases h
    · rw [if_neg hs] at h
      exact ⟨gen h, fun env x => fold_of (by simpa using hs)⟩

/-! #### targets -/
def mTgs (c : Cp) (E : CE) : List Expr → Option (List Tg × List Nat)
  | [] => some ([], [])
  | e :: es => if isStar e = true then none else (c.G E e).bind fun g => (mTgs c E es).map fun r => (g.1 :: r.1, g.2 ++ r.2)
def mTg (c : Cp) (E : CE) : Expr → Option (Tg × List Nat)
  | .Name x _ => if isL (E.nm.lookup x) = true ∧ (E.fn x = true ∨ E.nm.lookup x = some .local) then (ixOf x E.N).map fun i => (gNm i, [i]) else none
  | .Tuple es _ _ => (mTgs c E es).map fun g => (gTp es.length g.1, g.2)
  | .Subscript (.Name x _) b _ => if isSlice b = true then none else (slot E x).bind fun i => (mO c E b).map fun f => (gSb i f, [])
  | _ => none
theorem pg_imp {t t' : TG} {e : Expr} (h : PG X e t) (hh : ∀ v σ H Q, t' v σ H Q → t v σ H Q) : PG X e t' := ⟨fun pins s σ H v u Q I r q => h.run pins s σ H v u Q I r (hh v σ H Q q)⟩
theorem pgs_imp {t t' : TGs} {e : List Expr} (h : PGs X e t) (hh : ∀ v σ H Q, t' v σ H Q → t v σ H Q) : PGs X e t' := ⟨fun pins s σ H v u Q I r q => h.run pins s σ H v u Q I r (hh v σ H Q q)⟩
theorem mTgs_ok (ok : CpOk c) (g : Good τ E X W) : ∀ {es : List Expr} {f : List Tg × List Nat}, mTgs c E es = some f → (∀ T : List Nat, (∀ i ∈ f.2, i ∈ T) → PGs X es (tOfGs X.K τ (WiOf X.mg X.K τ W) T f.1)) ∧
    (assignEach es X.env).length = es.length ∧ (assignEach es X.env).findIdx? (·.1) = none
  | [], f, h => by cases h; exact ⟨fun T _ => pgs_imp pgs_nil fun v σ H Q => t_gNil, rfl, rfl⟩
  | e :: es, f, h => by
    unfold mTgs at h
    by_cases hs : isStar e = true
    · rw [if_pos hs] at h; cases h
    · rw [if_neg hs] at h
      cases q1 : c.G E e with
      | none => rw [q1] at h; cases h
      | some g1 =>
        rw [q1, Option.bind_some] at h
        cases q2 : mTgs c E es with
        | none => rw [q2] at h; cases h
        | some r =>
          rw [q2] at h; cases h
          obtain ⟨p1, p2, p3⟩ := mTgs_ok ok g q2
          have e1 := asg_of (es := es) (env := X.env) (show isStar e = false by simpa using hs)
          refine ⟨fun T hT => pgs_imp (pgs_cons (ok.G g q1 T fun i hi => hT i (List.mem_append_left _ hi)) (p1 T fun i hi => hT i (List.mem_append_right _ hi)) (by rw [e1]; rfl)) fun v σ H Q => t_gCons, by rw [e1, List.length_cons, p2, List.length_cons], ?_⟩
          rw [e1, List.findIdx?_cons, p3]
          rfl
theorem mTg_ok (ok : CpOk c) (g : Good τ E X W) {e : Expr} {f : Tg} {T0 : List Nat} (h : mTg c E e = some (f, T0)) (T : List Nat) (hT : ∀ i ∈ T0, i ∈ T) : PG X e (tOfG X.K τ (WiOf X.mg X.K τ W) T f) := by
  unfold mTg at h
  split at h
  · rename_i x p
    by_cases hc : isL (E.nm.lookup x) = true ∧ (E.fn x = true ∨ E.nm.lookup x = some .local)
    · rw [if_pos hc] at h
      cases q : ixOf x E.N with
      | none => rw [q] at h; cases h
      | some i =>
        rw [q] at h; cases h
        have hL : Loc X.env.scope x := by
          unfold L2.Loc
          rw [g.nm]
          have := hc.1
          unfold isL at this
          split at this
          · rename_i e; exact .inl e
          · rename_i e; exact .inr e
          · cases this
        exact pg_imp (pg_name g.nd (by rw [g.N]; exact ixOf_some q) hL (hc.2.imp (g.fn x) fun z => by rw [g.nm]; exact z)) fun v σ H Q => t_gNm (hT i List.mem_cons_self)
    · rw [if_neg hc] at h; cases h
  · rename_i es k p
    cases q : mTgs c E es with
    | none => rw [q] at h; cases h
    | some r =>
      rw [q] at h; cases h
      obtain ⟨p1, p2, p3⟩ := mTgs_ok ok g q
      exact pg_imp (pg_tl g.calm (p1 T hT) p2 p3) fun v σ H Q => t_gTp
  · rename_i x p1 b p2
    by_cases hs : isSlice b = true
    · rw [if_pos hs] at h; cases h
    · rw [if_neg hs] at h
      cases q : slot E x with
      | none => rw [q] at h; cases h
      | some i =>
        rw [q, Option.bind_some] at h
        cases q2 : mO c E b with
        | none => rw [q2] at h; cases h
        | some f2 =>
          rw [q2] at h; cases h
          obtain ⟨a1, a2, a3, a4⟩ := g.slot q
          refine pg_imp (pg_sub (pe_var a1 a2 a3 a4) (mO_ok ok g q2) set_list fun v => ?_) fun v σ H Q => t_gSb
          have hb : isSlice b = false := by simpa using hs
          cases b <;> first | rfl | cases hb
  · cases h

/-! #### comprehensions -/
def ownOf (N : List Str) (names : List (Str × NameKind)) : List (Str × Nat) := names.filterMap fun y => if isL (some y.2) = true then (ixOf y.1 N).map fun i => (y.1, i) else none
def relNm (names nm : List (Str × NameKind)) : List (Str × NameKind) := names.map fun y => if (y.2 == .free && nm.lookup y.1 == some .cell) = true then (y.1, .cell) else y
def CE.sub (E : CE) (scope : Scope) : CE := { E with nm := relNm scope.names E.nm, blk := some scope.names, lam := false, er := [], ak := [] }
def scOf (nm : List (Str × NameKind)) : Scope := { kind := .function, names := nm, isGenerator := false, isCoroutine := false }
theorem Good.sub (g : Good τ E X W) {scope : Scope} (hk : scope.kind = .function) (s : Shared) (H : Hp) (C : Addr) (cl : List (Str × Addr)) (fp : List Addr) :
    Good τ (E.sub scope) (X.blk s H scope (compEnvC scope cl C X.env) fp) (fun _ _ _ _ => False) := by
  refine ⟨g.N, g.nd, ?_, hk, g.calm, fun x hx => hx, g.un, g.bl, g.cs, g.gm, takes0, fun _ _ h => h.elim, fun z => absurd (show false = true from z) (by decide), g.al, fun c hc => absurd hc List.not_mem_nil, fun x hs z => by cases z⟩
  show (scope.names.map fun y => if (y.2 == .free && X.env.scope.kind == .function && X.env.kindOf y.1 == some .cell) = true then (y.1, NameKind.cell) else (y.1, y.2)) = relNm scope.names E.nm
  unfold relNm
  refine List.map_congr_left fun y hy => ?_
  have e1 : X.env.kindOf y.1 = E.nm.lookup y.1 := by
    show X.env.scope.names.lookup y.1 = _
    rw [g.nm]
  rw [e1, g.kd]
  simp
def mIfs (c : Cp) (E : CE) : List Expr → Option Et
  | [] => some yes
  | [t] => c.T E t
  | _ => none
theorem mIfs_ok (ok : CpOk c) (g : Good τ E X W) {ifs : List Expr} {f : Et} (h : mIfs c E ifs = some f) : PTs X ifs (tOfT X.K τ (WiOf X.mg X.K τ W) f) := by
  unfold mIfs at h
  split at h
  · cases h
    refine ⟨fun pins s σ H Q I q => pts_nil.run pins s σ H Q I ?_⟩
    obtain ⟨F, M, ρ, S, q⟩ := q
    exact q H M S Step.refl
  · exact pts_one (ok.T g h)
  · cases h
def mLc (c : Cp) (E : CE) (elt : Expr) : List Comprehension → Scope → Option Ef
  | [⟨tg, iter, ifs, 0⟩], scope => if blkC E.N (scOf E.nm) scope (ownOf E.N scope.names) = true then
      (c.I E iter).bind fun it => (c.G (E.sub scope) tg).bind fun gg => if (gg.2.all fun i => decide (i ∈ (ownOf E.N scope.names).map (·.2))) = true then
        (mIfs c (E.sub scope) ifs).bind fun tt => (mE c (E.sub scope) elt).map fun el => lcE ((ownOf E.N scope.names).map (·.2)) it gg.1 tt el else none else none
  | _, _ => none
theorem pts_imp {t t' : TT} {e : List Expr} (h : PTs X e t) (hh : ∀ σ H Q, t' σ H Q → t σ H Q) : PTs X e t' := ⟨fun pins s σ H Q I q => h.run pins s σ H Q I (hh σ H Q q)⟩
theorem mLc_ok (ok : CpOk c) (g : Good τ E X W) {elt : Expr} {gs : List Comprehension} {scope : Scope} {f : Ef} (h : mLc c E elt gs scope = some f) :
    ∃ (tg iter : Expr) (ifs : List Expr) (own : List (Str × Nat)) (wi : TI) (tG : TG) (tt : TT) (te : TE), gs = [⟨tg, iter, ifs, 0⟩] ∧ PI X tg iter wi ∧ BlkOk X.N X.env.scope scope own ∧
      (∀ (s : Shared) (H : Hp) (C : Addr) (cl : List (Str × Addr)) (fp : List Addr), PG (X.blk s H scope (compEnvC scope cl C X.env) fp) tg tG) ∧
      (∀ (s : Shared) (H : Hp) (C : Addr) (cl : List (Str × Addr)) (fp : List Addr), PTs (X.blk s H scope (compEnvC scope cl C X.env) fp) ifs tt) ∧
      (∀ (s : Shared) (H : Hp) (C : Addr) (cl : List (Str × Addr)) (fp : List Addr), PE (X.blk s H scope (compEnvC scope cl C X.env) fp) elt te) ∧ (∀ env x, foldedSetIterable iter env x = pure x) ∧
      ∀ σ H Q, tOfF X.K τ (WiOf X.mg X.K τ W) f σ H Q → tLc wi tG tt te (own.map (·.2)) σ H Q := by
  unfold mLc at h
  split at h
  · rename_i tg iter ifs
    by_cases hb : blkC E.N (scOf E.nm) scope (ownOf E.N scope.names) = true
    · rw [if_pos hb] at h
      cases q1 : c.I E iter with
      | none => rw [q1] at h; cases h
      | some it =>
        rw [q1, Option.bind_some] at h
        cases q2 : c.G (E.sub scope) tg with
        | none => rw [q2] at h; cases h
        | some gg =>
          rw [q2, Option.bind_some] at h
          by_cases hT : (gg.2.all fun i => decide (i ∈ (ownOf E.N scope.names).map (·.2))) = true
          · rw [if_pos hT] at h
            cases q3 : mIfs c (E.sub scope) ifs with
            | none => rw [q3] at h; cases h
            | some tt =>
              rw [q3, Option.bind_some] at h
              cases q4 : mE c (E.sub scope) elt with
              | none => rw [q4] at h; cases h
              | some el =>
                rw [q4] at h; cases h
                have hB := blkOk_by hb
                have hw : ∀ F c p, Wi0 F c p → (WiOf X.mg X.K τ fun _ _ _ _ => False) F c p := fun _ _ _ z => z.elim
                obtain ⟨p1, p2⟩ := ok.I g q1
                have gs := fun s H C cl fp => g.sub (W := W) hB.kind s H C cl fp
                refine ⟨tg, iter, ifs, ownOf E.N scope.names, _, tOfG X.K τ Wi0 ((ownOf E.N scope.names).map (·.2)) gg.1, tOfT X.K τ Wi0 tt, tOf X.K τ Wi0 el, rfl, p1 tg, ⟨hB.kind, hB.uniq, fun p hp => by rw [g.N]; exact hB.ix p hp, fun y hy e => by rw [g.nm]; exact hB.free y hy e, fun y hy e => by rw [g.N]; exact hB.own y hy e⟩, ?_, ?_, ?_, p2, fun σ H Q q => t_lcE q⟩
                · exact fun s H C cl fp => pg_imp (ok.G (gs s H C cl fp) q2 _ fun i hi => of_decide_eq_true (List.all_eq_true.mp hT i hi)) fun v σ H Q => tOfG_wi hw
                · exact fun s H C cl fp => pts_imp (mIfs_ok ok (gs s H C cl fp) q3) fun σ H Q => tOfT_wi hw
                · exact fun s H C cl fp => pe_imp (mE_ok ok (gs s H C cl fp) q4) fun σ H Q => tOf_wi hw
          · rw [if_neg hT] at h; cases h
    · rw [if_neg hb] at h; cases h
  · cases h
theorem mLcE_ok (ok : CpOk c) (g : Good τ E X W) {elt : Expr} {gs : List Comprehension} {scope : Scope} {f : Ef} {pos : Pos} (h : mLc c E elt gs scope = some f) : PE X (.ListComp elt gs scope pos) (tOfM X.K τ (WiOf X.mg X.K τ W) (nw f)) := by
  obtain ⟨tg, iter, ifs, own, wi, tG, tt, te, e, h1, h2, h3, h4, h5, h6, h7⟩ := mLc_ok ok g h
  subst e
  exact pe_imp (pe_lc g.calm g.nd h1 h2 h3 h4 h5 (h6 X.env)) fun σ H Q q => h7 σ H Q (t_nw q)
end
end MP

namespace MP
open PySem PySem.Spec PyProof.Rows L2

/-! ### several values at once, new lists kept as one's own -/
def toSl : Res → Sl
  | .inl d => .va d
  | .inr ds => .ow (.lst ds)
/-- a result that is held while more is evaluated -/
def Held (K : PySem.W.Frag) (F : Fr) (H : Hp) (M : Addr → Prop) (σ : L2.St) (ρ : Store) (v : V) : Res → Prop
  | .inl d => Rep K H M v d
  | .inr ds => ∃ p, v = .ref p ∧ M p ∧ ¬ F.M0 p ∧ OwnR K H M p (.lst ds) ∧ ∀ i, ¬ OwnAt H σ ρ i p
inductive HeldL (K : PySem.W.Frag) (F : Fr) (H : Hp) (M : Addr → Prop) (σ : L2.St) (ρ : Store) : List V → List Res → Prop
  | nil : HeldL K F H M σ ρ [] []
  | cons {v : V} {vs : List V} {r : Res} {rs : List Res} : Held K F H M σ ρ v r → HeldL K F H M σ ρ vs rs → (∀ p ds, v = .ref p → r = .inr ds → ∀ (k : Nat) ws, rs[k]? = some (.inr ws) → vs[k]? ≠ some (.ref p)) → HeldL K F H M σ ρ (v :: vs) (r :: rs)
def isInr : Res → Bool
  | .inr _ => true
  | _ => false
def parX {α : Type} : Res → R α → R α
  | .inr _, m => noX m
  | .inl _, m => m
theorem noX_ok_iff {α : Type} {r : R α} {a : α} (h : noX r = .ok a) : r = .ok a := by
  cases r <;> first | exact h | cases h
def parE : List Em → Store → R (List Res × Store)
  | [], ρ => .ok ([], ρ)
  | f :: fs, ρ => (f ρ).bind fun x => (parX x.1 (parE fs x.2)).bind fun y => .ok (x.1 :: y.1, y.2)
def tConsL (K : PySem.W.Frag) (τ : LTab) (Wi : WiT) : List Em → TA
  | [] => tNil
  | f :: fs => tCons (tOfM K τ Wi f) (tConsL K τ Wi fs)
section
variable {K : PySem.W.Frag} {τ : LTab} {Wi Wi' : WiT} {F : Fr} {H H' : Hp} {M M' : Addr → Prop} {σ : L2.St} {ρ ρ' : Store}
theorem Held.to {v : V} {r : Res} (h : Held K F H M σ ρ v r) (hr : isInr r = false) (st : Step H M H' M') : Held K F H' M' σ ρ' v r := by
  cases r with
  | inl d => exact Rep.to h st
  | inr ds => cases hr
theorem HeldL.frame {D0 : Addr} {vs : List V} {rs : List Res} (h : HeldL K ⟨fun a => F.M0 a ∨ a = D0, F.M1, F.H0, F.io⟩ H M σ ρ vs rs) : HeldL K F H M σ ρ vs rs := by
  induction h with
  | nil => exact .nil
  | @cons v vs r rs h1 _ h3 ih =>
    refine .cons ?_ ih h3
    cases r with
    | inl d => exact h1
    | inr ds => obtain ⟨p, e, m, n, o, no⟩ := h1; exact ⟨p, e, m, fun z => n (.inl z), o, no⟩
theorem HeldL.frame' {D0 : Addr} {M1 : Addr → Prop} {H1 : Hp} {vs : List V} {rs : List Res} (h : HeldL K ⟨fun a => F.M0 a ∨ a = D0, M1, H1, F.io⟩ H M σ ρ vs rs) : HeldL K F H M σ ρ vs rs ∧ ∀ (k : Nat) ws, rs[k]? = some (.inr ws) → vs[k]? ≠ some (.ref D0) := by
  induction h with
  | nil => exact ⟨.nil, fun k ws e => by simp at e⟩
  | @cons v vs r rs h1 _ h3 ih =>
    refine ⟨.cons ?_ ih.1 h3, fun k ws e => ?_⟩
    · cases r with
      | inl d => exact h1
      | inr ds => obtain ⟨p, e, m, n, o, no⟩ := h1; exact ⟨p, e, m, fun z => n (.inl z), o, no⟩
    · cases k with
      | zero =>
        simp at e
        subst e
        obtain ⟨p, e, m, n, o, no⟩ := h1
        subst e
        intro z
        simp at z
        exact n (.inr z)
      | succ k => simpa using ih.2 k ws (by simpa using e)
theorem par_run : ∀ (fs : List Em) (F : Fr) (H : Hp) (M : Addr → Prop) (ρ : Store) (Q : List V → Hp → Prop), SR K τ F H M σ ρ → (match parE fs ρ with
      | .bad => False
      | .exc c p => Wi F c p
      | .ok (rs, ρ') => ∀ vs H' M', HeldL K F H' M' σ ρ' vs rs → SR K τ F H' M' σ ρ' → Step H M H' M' → Q vs H') → tConsL K τ Wi fs σ H Q
  | [], F, H, M, ρ, Q, S, h => h [] H M .nil S Step.refl
  | f :: fs, F, H, M, ρ, Q, S, h => by
    refine ⟨F, M, ρ, S, ?_⟩
    unfold parE at h
    cases q : f ρ with
    | bad => rw [q] at h; exact h
    | exc c p => rw [q] at h; exact h
    | ok x =>
      obtain ⟨r, ρ1⟩ := x
      rw [q, R.bind_ok] at h
      cases r with
      | inl d =>
        refine fun v H1 M1 r1 S1 st1 => par_run fs F H1 M1 ρ1 _ S1 ?_
        dsimp only [parX] at h
        cases q2 : parE fs ρ1 with
        | bad => rw [q2] at h; exact h
        | exc c p => rw [q2] at h; exact h
        | ok y =>
          rw [q2] at h
          exact fun vs H2 M2 hl S2 st2 => h (v :: vs) H2 M2 (.cons (r1.to st2) hl (fun p ds _ e => by cases e)) S2 (st1.trans st2)
      | inr ds =>
        refine fun p H1 nw => ?_
        obtain ⟨M1, m1, n1, o1, S1, st1, no1⟩ := nw.own
        refine par_run fs _ H1 M1 ρ1 _ (S1.inner m1 no1) ?_
        dsimp only [parX] at h
        cases q2 : parE fs ρ1 with
        | bad => rw [q2] at h; exact h.elim
        | exc c p => rw [q2] at h; exact h.elim
        | ok y =>
          rw [q2] at h
          refine fun vs H2 M2 hl S2 st2 => ?_
          obtain ⟨S3, m3, e3, no3⟩ := S1.outer n1 S2
          obtain ⟨hl', hd⟩ := hl.frame'
          exact h (.ref p :: vs) H2 M2 (.cons ⟨p, rfl, m3, n1, o1.to st2 e3, no3⟩ hl' fun p' ds' ep _ k ws ek => by cases ep; exact hd k ws ek) S3 (st1.trans st2)
def setR : List Nat → List Res → Store → Store
  | i :: is, r :: rs, ρ => setR is rs (ρ.set i (toSl r))
  | _, _, ρ => ρ
def setV : List Nat → List V → L2.St → L2.St
  | i :: is, v :: vs, σ => setV is vs (σ.set i (some v))
  | _, _, σ => σ
theorem Held.set1 {i : Nat} {v : V} {r : Res} (S : SR K τ F H M σ ρ) (h : Held K F H M σ ρ v r) : SR K τ F H M (σ.set i (some v)) (ρ.set i (toSl r)) := by
  cases r with
  | inl d => exact S.setVa h
  | inr ds =>
    obtain ⟨p, e, m, n, o, no⟩ := h
    subst e
    exact S.setOw m n o no
theorem OwnAt.unset {i k : Nat} {v : V} {r : Res} {p : Addr} (h : OwnAt H (σ.set i (some v)) (ρ.set i (toSl r)) k p) : OwnAt H σ ρ k p ∨ (v = .ref p ∧ ∃ ds, r = .inr ds) := by
  rcases h.set2 with ⟨_, h⟩ | ⟨_, c, e, h⟩
  · exact .inl h
  · cases r with
    | inl d => exact h.elim
    | inr ds =>
      have e2 : p = c := h
      rw [e2]
      exact .inr ⟨Option.some.inj e, ds, rfl⟩
theorem HeldL.get {vs : List V} {rs : List Res} (h : HeldL K F H M σ ρ vs rs) : ∀ (k : Nat) v r, vs[k]? = some v → rs[k]? = some r → Held K F H M σ ρ v r := by
  induction h with
  | nil => intro k v r e; simp at e
  | @cons v vs r rs h1 _ _ ih =>
    intro k v' r' e1 e2
    cases k with
    | zero => simp at e1 e2; subst e1; subst e2; exact h1
    | succ k => exact ih k v' r' (by simpa using e1) (by simpa using e2)
theorem HeldL.set1 {i : Nat} {v : V} {r : Res} : ∀ {vs : List V} {rs : List Res}, HeldL K F H M σ ρ vs rs → (∀ p ds, v = .ref p → r = .inr ds → ∀ (k : Nat) ws, rs[k]? = some (.inr ws) → vs[k]? ≠ some (.ref p)) → HeldL K F H M (σ.set i (some v)) (ρ.set i (toSl r)) vs rs := by
  intro vs rs h
  induction h with
  | nil => exact fun _ => .nil
  | @cons v' vs r' rs h1 _ h3 ih =>
    intro hd
    refine .cons ?_ (ih fun p ds e1 e2 k ws e3 => by simpa using hd p ds e1 e2 (k + 1) ws (by simpa using e3)) h3
    cases r' with
    | inl d => exact h1
    | inr ds =>
      obtain ⟨p, e, m, n, o, no⟩ := h1
      refine ⟨p, e, m, n, o, fun k z => ?_⟩
      rcases z.unset with z | ⟨z1, ds', z2⟩
      · exact no k z
      · exact hd p ds' z1 z2 0 ds rfl (by rw [e]; rfl)
theorem set_all : ∀ {vs : List V} {rs : List Res} (is : List Nat) {σ : L2.St} {ρ : Store}, SR K τ F H M σ ρ → HeldL K F H M σ ρ vs rs → SR K τ F H M (setV is vs σ) (setR is rs ρ)
  | [], [], is, σ, ρ, S, _ => by cases is <;> exact S
  | v :: vs, r :: rs, [], σ, ρ, S, _ => S
  | v :: vs, r :: rs, i :: is, σ, ρ, S, h => by
    cases h with
    | cons h1 h2 h3 => exact set_all is (h1.set1 S) (h2.set1 h3)
/-- names = values -/
def sPar (is : List Nat) (fs : List Em) : Es := fun ρ => (parE fs ρ).thenS fun x => .next (setR is x.1 x.2)
theorem t_par {is : List Nat} {fs : List Em} {E : Ends} (h : tOfS K τ Wi (sPar is fs) E σ H) : tConsL K τ Wi fs σ H fun vs H1 => vs.length = fs.length ∧ ∀ H2, New H1 H2 → E.nx (setV is vs σ) H2 := by
  obtain ⟨F, M, ρ, S, h⟩ := PostS.of h
  refine par_run fs F H M ρ _ S ?_
  unfold sPar at h
  cases q : parE fs ρ with
  | bad => rw [q] at h; exact h
  | exc c p => rw [q] at h; exact h
  | ok x =>
    obtain ⟨rs, ρ1⟩ := x
    rw [q] at h
    intro vs H1 M1 hl S1 st1
    have hlen : ∀ {vs : List V} {rs : List Res}, HeldL K F H1 M1 σ ρ1 vs rs → vs.length = rs.length := fun {vs rs} h => by
      induction h with
      | nil => rfl
      | cons _ _ _ ih => rw [List.length_cons, List.length_cons, ih]
    have hpar : ∀ (fs : List Em) (ρ : Store) (rs : List Res) (ρ1 : Store), parE fs ρ = .ok (rs, ρ1) → rs.length = fs.length := by
      intro fs
      induction fs with
      | nil => intro ρ rs ρ1 e; cases e; rfl
      | cons f fs ih =>
        intro ρ rs ρ1 e
        unfold parE at e
        cases q : f ρ with
        | bad => rw [q] at e; cases e
        | exc c p => rw [q] at e; cases e
        | ok x =>
          rw [q, R.bind_ok] at e
          have go : ∀ {r : R (List Res × Store)}, (r.bind fun y => R.ok (x.1 :: y.1, y.2)) = .ok (rs, ρ1) → ∃ y, r = .ok y ∧ rs = x.1 :: y.1 := fun {r} e => by
            cases r with
            | ok y => cases e; exact ⟨y, rfl, rfl⟩
            | exc c p => cases e
            | bad => cases e
          obtain ⟨y, e1, e2⟩ := go e
          subst e2
          have e1 : parE fs x.2 = .ok y := by
            unfold parX at e1
            split at e1
            · exact noX_ok_iff e1
            · exact e1
          rw [List.length_cons, List.length_cons, ih x.2 y.1 y.2 e1]
    exact ⟨(hlen hl).trans (hpar fs ρ rs ρ1 q), fun H2 n => h _ H2 M1 ((set_all is S1 hl).new n) (st1.trans n.step)⟩
theorem tConsL_mono : ∀ {fs : List Em} {σ : L2.St} {H : Hp} {Q Q' : List V → Hp → Prop}, tConsL K τ Wi fs σ H Q → (∀ vs H', Q vs H' → Q' vs H') → tConsL K τ Wi fs σ H Q'
  | [], _, _, _, _, h, hq => hq _ _ h
  | f :: fs, σ, H, Q, Q', h, hq => by
    obtain ⟨F, M, ρ, S, h⟩ := h
    refine ⟨F, M, ρ, S, ?_⟩
    cases q : f ρ with
    | bad => rw [q] at h; exact h
    | exc c p => rw [q] at h; exact h
    | ok x =>
      obtain ⟨r, ρ1⟩ := x
      rw [q] at h
      cases r with
      | inl d => exact fun v H' M' r S' st => tConsL_mono (h v H' M' r S' st) fun vs H2 z => hq _ _ z
      | inr ds => exact fun p H' nw => tConsL_mono (h p H' nw) fun vs H2 z => hq _ _ z
def gNames : List Nat → TGs
  | [] => gNil
  | i :: is => gCons (gName i) (gNames is)
theorem gNames_of : ∀ {is : List Nat} {vs : List V} {σ : L2.St} {H : Hp} {Q : L2.St → Hp → Prop}, vs.length = is.length → Q (setV is vs σ) H → gNames is vs σ H Q
  | [], [], _, _, _, _, h => ⟨rfl, h⟩
  | i :: is, v :: vs, σ, H, Q, hl, h => ⟨v, vs, rfl, gNames_of (σ := σ.set i (some v)) (by simpa using hl) h⟩
  | [], _ :: _, _, _, _, hl, _ => by simp at hl
  | _ :: _, [], _, _, _, hl, _ => by simp at hl
theorem t_sParG {is : List Nat} {fs : List Em} {E : Ends} (hl : is.length = fs.length) (h : tOfS K τ Wi (sPar is fs) E σ H) (hz : fs.length ≤ 100) : tAsg (tTup (tConsL K τ Wi fs)) (gTup K is.length (gNames is)) E σ H :=
  tConsL_mono (t_par h) fun vs H1 ⟨h1, h2⟩ => ⟨by rw [h1, sizeLine_eq]; omega, fun p hp => ⟨p, vs, rfl, .inl (.inl upd_same), h1.trans hl.symm, gNames_of (h1.trans hl.symm) (h2 _ (New.upd hp))⟩⟩
theorem t_sPar2 {i j : Nat} {f g : Em} {E : Ends} (h : tOfS K τ Wi (sPar [i, j] [f, g]) E σ H) : tPar i j (tConsL K τ Wi [f, g]) E σ H :=
  tConsL_mono (t_par h) fun vs H1 ⟨h1, h2⟩ => by
    match vs, h1, h2 with
    | [v, w], _, h2 => exact ⟨v, w, rfl, h2 H1 New.refl⟩
theorem t_sPar3 {i j k : Nat} {f g l : Em} {E : Ends} (h : tOfS K τ Wi (sPar [i, j, k] [f, g, l]) E σ H) : tPar3 i j k (tConsL K τ Wi [f, g, l]) E σ H :=
  tConsL_mono (t_par h) fun vs H1 ⟨h1, h2⟩ => by
    match vs, h1, h2 with
    | [u, v, w], _, h2 => exact ⟨u, v, w, rfl, h2 H1 New.refl⟩

/-! ### slot += f: ints, or a list of one's own -/
def sAugA (i : Nat) (f : Ex) : Es := fun ρ => (pk i ρ).thenS fun o => (f o.2).thenS fun x => match (x.2[i]?), x.1 with
  | some (.va (.int a)), .int b => .next (x.2.set i (.va (.int (a + b))))
  | some (.ow (.lst xs)), .lst ys => if room (xs.length + ys.length) = true then .next (x.2.set i (.ow (.lst (xs ++ ys)))) else .bad
  | _, _ => .bad
def ipA : V → V → Hp → VK → Prop := fun x y H Q => ipI (fun i j => i + j) x y H Q ∨ rExt2 x y H Q
theorem pip_A {X : Cx} : PIp X .Add ipA := by
  intro pins s σ H x y v u Q I rx ry h
  rcases h with h | h
  · exact ip_add pins s σ H x y v u Q I rx ry h
  · exact iop_ext pins s σ H x y v u Q I rx ry h
theorem t_sAugA {i : Nat} {f : Ex} {E : Ends} (h : tOfS K τ Wi (sAugA i f) E σ H) : tAug i (tOf K τ Wi f) ipA E σ H := by
  obtain ⟨F, M, ρ, S, h⟩ := h
  have h : PostS K τ Wi F E H M (sAugA i f ρ) := h
  unfold sAugA at h
  cases q0 : pk i ρ with
  | bad => rw [q0] at h; exact h.elim
  | exc c p => exact absurd q0 pk_noexc
  | ok o =>
    obtain ⟨eo, v, hv⟩ := S.pk q0
    subst eo
    rw [q0, R.thenS_ok] at h
    refine ⟨v, hv, F, M, ρ, S, ?_⟩
    cases q1 : f ρ with
    | bad => rw [q1] at h; exact h
    | exc c p => rw [q1] at h; exact h
    | ok x =>
      obtain ⟨d, ρ1⟩ := x
      rw [q1, R.thenS_ok] at h
      refine fun u H1 M1 r1 S1 st1 => ?_
      dsimp only at h
      split at h
      · rename_i a b e1
        cases r1
        have s := S1.sl i
        rw [e1, hv] at s
        cases s with
        | va r =>
          cases r
          exact .inl ⟨a, b, rfl, rfl, h _ H1 M1 (S1.setVa (.int _)) st1⟩
      · rename_i xs ys e1
        by_cases hr : room (xs.length + ys.length) = true
        · rw [if_pos hr] at h
          cases r1 with
          | @lst b ws _ fb rb =>
            obtain ⟨a, vs, e2, e3, rv, hm⟩ := S1.at (ds := xs) e1 (.inl rfl)
            rw [e2] at hv
            cases hv
            obtain ⟨S2, st2⟩ := S1.write (vs' := vs ++ ws) (ds := xs) (ds' := xs ++ ys) (x := .ow (.lst xs)) (x' := .ow (.lst (xs ++ ys))) e2 e1 (.inl ⟨rfl, rfl⟩) (rv.append rb)
            have e4 : σ.set i (some (.ref a)) = σ := by
              apply List.ext_getElem?
              intro k
              by_cases hk : k = i
              · subst hk
                rw [List.getElem?_set_self (List.getElem?_eq_some_iff.mp e2).1, e2]
              · rw [List.getElem?_set_ne (Ne.symm hk)]
            refine .inr ⟨a, b, vs, ws, rfl, rfl, e3, fb.1, by rw [rv.length, rb.length]; exact room_le hr, ?_⟩
            show E.nx (σ.set i (some (.ref a))) _
            rw [e4]
            exact h _ _ M1 S2 (st1.trans st2)
        · rw [if_neg hr] at h; exact h.elim
      · exact h.elim
end
end MP

namespace MP
open PySem PySem.Spec PyProof.Rows L2

/-! ### assignments -/
theorem blockKind_of {env : Env} (hk : env.scope.kind = .function) : env.blockKind = .function := by unfold Env.blockKind; rw [hk]; rfl
def swB (nm names : List (Str × NameKind)) (y : Str) (l1 l2 : Nat) : Bool := (nm.lookup y == some .local) && (l1 == l2) && !(names.any fun z => z.1 == y && (z.2 == .local || z.2 == .cell))
theorem sw_ff {elt : Expr} {gs : List Comprehension} {scope : Scope} {pos py : Pos} {y : Str} {l : Nat} {env : Env} {nm : List (Str × NameKind)} (hn : env.scope.names = nm) (hk : env.scope.kind = .function)
    (h : swB nm scope.names y py.line pos.line = false) : swapsWith (.ListComp elt gs scope pos) (some (.Name y py)) l env = pure false := by
  have e : swapsWith (.ListComp elt gs scope pos) (some (.Name y py)) l env = pure (env.blockKind == .function && env.kindOf y == some .local && py.line == pos.line
      && !(scope.names.any fun (n, k) => n == y && (k == .local || k == .cell))) := rfl
  rw [e, blockKind_of hk]
  have e2 : env.kindOf y = nm.lookup y := by
    show env.scope.names.lookup y = _
    rw [hn]
  rw [e2]
  unfold swB at h
  congr 1
theorem sw_tt {nm names : List (Str × NameKind)} {y : Str} {l1 l2 : Nat} (h : swB nm names y l1 l2 = true) : nm.lookup y = some .local ∧ (l1 == l2) = true ∧ (names.any fun (n, k) => n == y && (k == .local || k == .cell)) = false := by
  unfold swB at h
  simp only [Bool.and_eq_true, Bool.not_eq_true'] at h
  exact ⟨by simpa using h.1.1, h.1.2, h.2⟩
def swS (nm : List (Str × NameKind)) (ts vs : List Expr) : Option (Option (List Str)) :=
  if (!(ts.length == 2 || ts.length == 3) || vs.length != ts.length) = true then some none else
  if (vs.any fun | .Starred .. => true | _ => false) = true then some none else
  if ((ts.filterMap fun
    | .Name id pos => if (nm.lookup id == some .local && pos.line == (ts.head?.map (·.pos.line)).getD 0) = true then some id else none
    | _ => none).length != ts.length || (ts.filterMap fun
    | .Name id pos => if (nm.lookup id == some .local && pos.line == (ts.head?.map (·.pos.line)).getD 0) = true then some id else none
    | _ => none).eraseDups.length != (ts.filterMap fun
    | .Name id pos => if (nm.lookup id == some .local && pos.line == (ts.head?.map (·.pos.line)).getD 0) = true then some id else none
    | _ => none).length) = true then some none else
  if vs.all (foldedForSure 8) = true then some none else
  if vs.all (constantsAlone 8) = true then none else
  some (some (ts.filterMap fun
    | .Name id pos => if (nm.lookup id == some .local && pos.line == (ts.head?.map (·.pos.line)).getD 0) = true then some id else none
    | _ => none))
theorem swS_ok {ts vs : List Expr} {k k2 : Nat} {p p2 : Pos} {env : Env} {nm : List (Str × NameKind)} {r : Option (List Str)} (hn : env.scope.names = nm) (hk : env.scope.kind = .function)
    (h : swS nm ts vs = some r) : swappedStores [.Tuple ts k p] (.Tuple vs k2 p2) env = pure r := by
  subst hn
  unfold swS at h
  unfold swappedStores
  have hb : (env.blockKind != .function) = false := by rw [blockKind_of hk]; rfl
  simp only [hb, Bool.or_false]
  split at h
  · rename_i c; cases h; rw [if_pos c] 
  rename_i c; rw [if_neg c]
  split at h
  · rename_i c; cases h; (try simp only [pure_bind]); rw [if_pos (by exact c)] 
  rename_i c; (try simp only [pure_bind]); rw [if_neg (by exact c)]
  split at h
  · rename_i c; cases h; rw [if_pos (by exact c)]
  rename_i c; rw [if_neg (by exact c)]
  split at h
  · rename_i c; cases h; (try simp only [pure_bind]); rw [if_pos (by exact c)]
  rename_i c; (try simp only [pure_bind]); rw [if_neg (by exact c)]
  split at h
  · cases h
  rename_i c; (try simp only [pure_bind]); rw [if_neg (by exact c)]
  cases h
  rfl
section
variable {c : Cp} {τ : LTab} {E : CE} {X : Cx} {W : WX}
def tgSlot (E : CE) (x : Str) : Option Nat := if isL (E.nm.lookup x) = true ∧ (E.fn x = true ∨ E.nm.lookup x = some .local) then ixOf x E.N else none
theorem Good.tg (g : Good τ E X W) {x : Str} {i : Nat} (h : tgSlot E x = some i) : X.N[i]? = some x ∧ L2.Loc X.env.scope x ∧ (X.fn x = true ∨ X.env.scope.names.lookup x = some .local) := by
  unfold tgSlot at h
  by_cases hc : isL (E.nm.lookup x) = true ∧ (E.fn x = true ∨ E.nm.lookup x = some .local)
  · rw [if_pos hc] at h
    refine ⟨by rw [g.N]; exact ixOf_some h, ?_, hc.2.imp (g.fn x) fun z => by rw [g.nm]; exact z⟩
    unfold L2.Loc
    rw [g.nm]
    have := hc.1
    unfold isL at this
    split at this
    · rename_i e; exact .inl e
    · rename_i e; exact .inr e
    · cases this
  · rw [if_neg hc] at h; cases h
def mSet (c : Cp) (E : CE) (x : Str) (l : Nat) (e : Expr) : Option Es := (tgSlot E x).bind fun i => match e with
  | .ListComp elt gs scope lp => match mLc c E elt gs scope with
    | some f => some (sOwn i f)
    | none => if swB E.nm scope.names x l lp.line = false then (c.M E (.ListComp elt gs scope lp)).map fun f => sSetM i f else none
  | e => if isComp e = true then none else (c.M E e).map fun f => sSetM i f
theorem swap_none {e : Expr} (h : isComp e = false) {t : Option Expr} {l : Nat} {env : Env} : swapsWith e t l env = pure false := by
  cases e <;> first | rfl | cases h
theorem mSet_ok (ok : CpOk c) (g : Good τ E X W) {x : Str} {px pos : Pos} {e : Expr} {f : Es} (h : mSet c E x px.line e = some f) : PS X (.Assign [.Name x px] e pos) (tOfS X.K τ (WiOf X.mg X.K τ W) f) := by
  unfold mSet at h
  cases q1 : tgSlot E x with
  | none => rw [q1] at h; cases h
  | some i =>
    rw [q1, Option.bind_some] at h
    obtain ⟨hi, hL, hf⟩ := g.tg q1
    split at h
    · rename_i elt gs scope lp
      cases q2 : mLc c E elt gs scope with
      | some f1 =>
        rw [q2] at h; cases h
        obtain ⟨tg, iter, ifs, own, wi, tG, tt, te, e, h1, h2, h3, h4, h5, h6, h7⟩ := mLc_ok ok g q2
        subst e
        have fin : ∀ D σ H, tOfS X.K τ (WiOf X.mg X.K τ W) (sOwn i f1) D σ H → tAsg (tLc wi tG tt te (own.map (·.2))) (gName i) D σ H := fun D σ H q => h7 σ H _ (t_sOwn q)
        by_cases hs : swB E.nm scope.names x px.line lp.line = true
        · obtain ⟨s1, s2, s3⟩ := sw_tt hs
          rw [← g.nm] at s1
          exact ps_imp (ps_setLc g.calm g.nd hi s1 (sw_true g.kd s1 s2 s3) h1 h2 h3 h4 h5 (h6 X.env)) fin
        · exact ps_imp (ps_set g.nd hi hL (pe_lc g.calm g.nd h1 h2 h3 h4 h5 (h6 X.env)) (sw_ff g.nm g.kd (by simpa using hs)) hf) fin
      | none =>
        rw [q2] at h
        dsimp only at h
        by_cases hs : swB E.nm scope.names x px.line lp.line = false
        · rw [if_pos hs] at h
          cases q3 : c.M E (.ListComp elt gs scope lp) with
          | none => rw [q3] at h; cases h
          | some f1 =>
            rw [q3] at h; cases h
            exact ps_imp (ps_set g.nd hi hL (ok.M g q3) (sw_ff g.nm g.kd hs) hf) fun D σ H => t_sSetM
        · rw [if_neg hs] at h; cases h
    · by_cases hc : isComp e = true
      · rw [if_pos hc] at h; cases h
      · rw [if_neg hc] at h
        cases q2 : c.M E e with
        | none => rw [q2] at h; cases h
        | some f1 =>
          rw [q2] at h; cases h
          exact ps_imp (ps_set g.nd hi hL (ok.M g q2) (swap_none (by simpa using hc)) hf) fun D σ H => t_sSetM
/-! names = values -/
def nameSlots (E : CE) : List Expr → Option (List Nat)
  | [] => some []
  | .Name x _ :: es => (tgSlot E x).bind fun i => (nameSlots E es).map fun is => i :: is
  | _ :: _ => none
def mMs (c : Cp) (E : CE) : List Expr → Option (List Em)
  | [] => some []
  | e :: es => if isStar e = true then none else (c.M E e).bind fun f => (mMs c E es).map fun fs => f :: fs
theorem mMs_ok (ok : CpOk c) (g : Good τ E X W) : ∀ {es : List Expr} {fs : List Em}, mMs c E es = some fs → PA X es (tConsL X.K τ (WiOf X.mg X.K τ W) fs)
  | [], fs, h => by cases h; exact pa_nil
  | e :: es, fs, h => by
    unfold mMs at h
    by_cases hs : isStar e = true
    · rw [if_pos hs] at h; cases h
    · rw [if_neg hs] at h
      cases q1 : c.M E e with
      | none => rw [q1] at h; cases h
      | some f1 =>
        rw [q1, Option.bind_some] at h
        cases q2 : mMs c E es with
        | none => rw [q2] at h; cases h
        | some r =>
          rw [q2] at h; cases h
          exact pa_cons (ok.M g q1) (mMs_ok ok g q2) (star_of (by simpa using hs))
theorem nameSlots_ok (g : Good τ E X W) : ∀ {es : List Expr} {is : List Nat}, nameSlots E es = some is → PGs X es (gNames is) ∧ (assignEach es X.env).length = is.length ∧ (assignEach es X.env).findIdx? (·.1) = none
  | [], is, h => by cases h; exact ⟨pgs_nil, rfl, rfl⟩
  | e :: es, is, h => by
    unfold nameSlots at h
    split at h
    · cases ‹_ = ([] : List Expr)›
    · rename_i x p es' e1
      cases e1
      cases q1 : tgSlot E x with
      | none => rw [q1] at h; cases h
      | some i =>
        rw [q1, Option.bind_some] at h
        cases q2 : nameSlots E es with
        | none => rw [q2] at h; cases h
        | some r =>
          rw [q2] at h; cases h
          obtain ⟨p1, p2, p3⟩ := nameSlots_ok g q2
          obtain ⟨hi, hL, hf⟩ := g.tg q1
          have e1 : assignEach (.Name x p :: es) X.env = (false, assign (.Name x p) X.env) :: assignEach es X.env := rfl
          exact ⟨pgs_cons (pg_name g.nd hi hL hf) p1 rfl, by rw [e1, List.length_cons, p2, List.length_cons], by rw [e1, List.findIdx?_cons, p3]; rfl⟩
    · cases h
def parOk (nm : List (Str × NameKind)) (ts vs : List Expr) : Bool := match swS nm ts vs with
  | none => false
  | some none => true
  | some (some ns) => match ts, vs, ns with
    | [.Name x _, .Name y _], [_, _], [x', y'] => decide (x' = x) && decide (y' = y) && decide (nm.lookup x = some .local) && decide (nm.lookup y = some .local) && !decide (x = y)
    | [.Name x _, .Name y _, .Name z _], [_, _, _], [x', y', z'] => decide (x' = x) && decide (y' = y) && decide (z' = z) && decide (nm.lookup x = some .local) && decide (nm.lookup y = some .local) && decide (nm.lookup z = some .local) &&
      !decide (x = y) && !decide (x = z) && !decide (y = z)
    | _, _, _ => false
def mPar (c : Cp) (E : CE) (ts vs : List Expr) : Option Es := (nameSlots E ts).bind fun is => (mMs c E vs).bind fun fs => if is.length = fs.length ∧ fs.length ≤ 100 ∧ parOk E.nm ts vs = true then some (sPar is fs) else none
theorem sole_ff {t e : Expr} (h : ∀ x p, t ≠ .Name x p) {l : Nat} {env : Env} : swapsWithSole [t] e l env = pure false := by
  show swapsWith e (some t) l env = pure false
  cases t with
  | Name x p => exact absurd rfl (h x p)
  | _ => cases e <;> rfl
theorem mPar_ok (ok : CpOk c) (g : Good τ E X W) {ts vs : List Expr} {k k2 : Nat} {p p2 pos : Pos} {f : Es} (h : mPar c E ts vs = some f) : PS X (.Assign [.Tuple ts k p] (.Tuple vs k2 p2) pos) (tOfS X.K τ (WiOf X.mg X.K τ W) f) := by
  unfold mPar at h
  cases q1 : nameSlots E ts with
  | none => rw [q1] at h; cases h
  | some is =>
    rw [q1, Option.bind_some] at h
    cases q2 : mMs c E vs with
    | none => rw [q2] at h; cases h
    | some fs =>
      rw [q2, Option.bind_some] at h
      by_cases hc : is.length = fs.length ∧ fs.length ≤ 100 ∧ parOk E.nm ts vs = true
      · rw [if_pos hc] at h; cases h
        obtain ⟨hl, hz, hp⟩ := hc
        have pa := mMs_ok ok g q2
        obtain ⟨p1, p2', p3⟩ := nameSlots_ok g q1
        have hs : ∀ {e : Expr}, swapsWithSole [.Tuple ts k p] e pos.line X.env = pure false := by
          intro e
          exact sole_ff (fun _ _ z => by cases z)
        unfold parOk at hp
        split at hp
        · cases hp
        · rename_i e
          exact ps_imp (ps_asg (pe_tup pa) (pg_tup g.calm p1 p2' p3) hs (swS_ok g.nm g.kd e)) fun D σ H q => t_sParG hl q hz
        · rename_i ns e
          have hw := swS_ok (k := k) (k2 := k2) (p := p) (p2 := p2) g.nm g.kd e
          split at hp
          · rename_i x px y py a b x' y'
            simp only [Bool.and_eq_true, decide_eq_true_eq, Bool.not_eq_true', decide_eq_false_iff_not] at hp
            obtain ⟨⟨⟨⟨e1, e2⟩, e3⟩, e4⟩, e5⟩ := hp
            subst e1; subst e2
            rw [← g.nm] at e3 e4
            simp only [nameSlots] at q1
            cases r1 : tgSlot E x' with
            | none => rw [r1] at q1; cases q1
            | some i =>
              cases r2 : tgSlot E y' with
              | none => rw [r1, r2] at q1; cases q1
              | some j =>
                rw [r1, r2] at q1; cases q1
                have hi := (g.tg r1).1
                have hj := (g.tg r2).1
                rcases fs with _ | ⟨f1, _ | ⟨f2, _ | ⟨f3, fs⟩⟩⟩ <;> try (simp at hl; done)
                exact ps_imp (ps_par g.calm g.nd hi hj (fun z => e5 (by rw [z, hj] at hi; exact (Option.some.inj hi).symm)) e3 e4 pa hw hs) fun D σ H => t_sPar2
          · rename_i x px y py z pz a b d x' y' z'
            simp only [Bool.and_eq_true, decide_eq_true_eq, Bool.not_eq_true', decide_eq_false_iff_not] at hp
            obtain ⟨⟨⟨⟨⟨⟨⟨⟨e1, e2⟩, e2'⟩, e3⟩, e4⟩, e4'⟩, e5⟩, e6⟩, e7⟩ := hp
            subst e1; subst e2; subst e2'
            rw [← g.nm] at e3 e4 e4'
            simp only [nameSlots] at q1
            cases r1 : tgSlot E x' with
            | none => rw [r1] at q1; cases q1
            | some i =>
              cases r2 : tgSlot E y' with
              | none => rw [r1, r2] at q1; cases q1
              | some j =>
                cases r3 : tgSlot E z' with
                | none => rw [r1, r2, r3] at q1; cases q1
                | some l =>
                  rw [r1, r2, r3] at q1; cases q1
                  have hi := (g.tg r1).1
                  have hj := (g.tg r2).1
                  have hl' := (g.tg r3).1
                  rcases fs with _ | ⟨f1, _ | ⟨f2, _ | ⟨f3, _ | ⟨f4, fs⟩⟩⟩⟩ <;> try (simp at hl; done)
                  exact ps_imp (ps_par3 g.calm g.nd hi hj hl' (fun z => e5 (by rw [z, hj] at hi; exact (Option.some.inj hi).symm)) (fun z => e6 (by rw [z, hl'] at hi; exact (Option.some.inj hi).symm))
                      (fun z => e7 (by rw [z, hl'] at hj; exact (Option.some.inj hj).symm)) e3 e4 e4' pa hw hs) fun D σ H => t_sPar3
          · cases hp
      · rw [if_neg hc] at h; cases h
/-! other targets -/
def isTup' : Expr → Bool
  | .Tuple _ _ _ => true
  | _ => false
theorem sw_other {t e : Expr} {env : Env} (h : isTup' e = false) : swappedStores [t] e env = pure none := by
  cases t with
  | Tuple ts k p => cases e <;> first | rfl | cases h
  | List ts p => cases e <;> first | rfl | cases h
  | _ => cases e <;> rfl
theorem sw_sub {o i e : Expr} {p : Pos} {env : Env} : swappedStores [.Subscript o i p] e env = pure none := by
  cases e <;> rfl
def mAsg (c : Cp) (E : CE) (t e : Expr) : Option Es := match t with
  | .Name x px => mSet c E x px.line e
  | .Subscript o i p => (mE c E e).bind fun f => (c.G E (.Subscript o i p)).map fun gg => sAsg f gg.1
  | .Tuple ts k p => match e with
    | .Tuple vs k2 p2 => match mPar c E ts vs with
      | some f => some f
      | none => match swS E.nm ts vs with
        | some none => (mE c E (.Tuple vs k2 p2)).bind fun f => (c.G E (.Tuple ts k p)).map fun gg => sAsg f gg.1
        | _ => none
    | e => if isTup' e = true then none else (mE c E e).bind fun f => (c.G E (.Tuple ts k p)).map fun gg => sAsg f gg.1
  | _ => none
theorem mAsg_ok (ok : CpOk c) (g : Good τ E X W) {t e : Expr} {pos : Pos} {f : Es} (h : mAsg c E t e = some f) : PS X (.Assign [t] e pos) (tOfS X.K τ (WiOf X.mg X.K τ W) f) := by
  have gen : ∀ {t : Expr}, (∀ x p, t ≠ .Name x p) → isStar t = false → swappedStores [t] e X.env = pure none → ((mE c E e).bind fun f => (c.G E t).map fun gg => sAsg f gg.1) = some f → PS X (.Assign [t] e pos) (tOfS X.K τ (WiOf X.mg X.K τ W) f) := by
    intro t hn hst hw h
    cases q1 : mE c E e with
    | none => rw [q1] at h; cases h
    | some f1 =>
      rw [q1, Option.bind_some] at h
      cases q2 : c.G E t with
      | none => rw [q2] at h; cases h
      | some gg =>
        rw [q2] at h; cases h
        exact ps_imp (ps_asg (mE_ok ok g q1) (ok.G g q2 gg.2 fun i hi => hi) (sole_ff hn) hw (by rw [asg_of hst]; rfl)) fun D σ H => t_sAsg
  unfold mAsg at h
  split at h
  · exact mSet_ok ok g h
  · exact gen (fun _ _ z => nomatch z) rfl sw_sub h
  · rename_i ts k p
    split at h
    · rename_i vs k2 p2
      cases q1 : mPar c E ts vs with
      | some f1 => rw [q1] at h; cases h; exact mPar_ok ok g q1
      | none =>
        rw [q1] at h
        dsimp only at h
        split at h
        · rename_i e1
          exact gen (fun _ _ z => nomatch z) rfl (swS_ok g.nm g.kd e1) h
        · cases h
    · by_cases ht : isTup' e = true
      · rw [if_pos ht] at h; cases h
      · rw [if_neg ht] at h
        exact gen (fun _ _ z => nomatch z) rfl (sw_other (by simpa using ht)) h
  · cases h
def mAug (c : Cp) (E : CE) (x : Str) (op : Operator) (e : Expr) : Option Es := (tgSlot E x).bind fun i => (mE c E e).bind fun f => match op with
  | .Add => some (sAugA i f)
  | .Sub => some (sAug i (fun i j => i - j) f)
  | _ => none
theorem mAug_ok (ok : CpOk c) (g : Good τ E X W) {x : Str} {op : Operator} {e : Expr} {px pos : Pos} {f : Es} (h : mAug c E x op e = some f) : PS X (.AugAssign (.Name x px) op e pos) (tOfS X.K τ (WiOf X.mg X.K τ W) f) := by
  unfold mAug at h
  cases q1 : tgSlot E x with
  | none => rw [q1] at h; cases h
  | some i =>
    rw [q1, Option.bind_some] at h
    obtain ⟨hi, hL, hf⟩ := g.tg q1
    cases q2 : mE c E e with
    | none => rw [q2] at h; cases h
    | some f1 =>
      rw [q2, Option.bind_some] at h
      cases op with
      | Add => cases h; exact ps_imp (ps_aug g.nd hi hL (mE_ok ok g q2) pip_A hf) fun D σ H => t_sAugA
      | Sub => cases h; exact ps_imp (ps_aug g.nd hi hL (mE_ok ok g q2) ip_sub hf) fun D σ H => t_sAug
      | _ => cases h

/-! ### statements, tests, all together -/
def mSt (c : Cp) (E : CE) : Stmt → Option Es
  | .Expr (.Constant (.str _) _ _) _ => some sSkip
  | .Expr (.Call f es ks p) _ => (mE c E (.Call f es ks p)).map sDrop
  | .Assign [t] e _ => mAsg c E t e
  | .AugAssign (.Name x _) op e _ => mAug c E x op e
  | .Return none _ => some sRetN
  | .Return (some e) _ => (mE c E e).map sRet
  | .If t a b _ => (c.T E t).bind fun ft => (c.L E a).bind fun fa => (c.L E b).map fun fb => sIf ft fa fb
  | .For tg iter body [] _ => (c.I E iter).bind fun fi => (c.G E tg).bind fun gg => (c.L E body).map fun fb => sFor fi gg.1 fb
  | .While t body [] _ => (c.T E t).bind fun ft => (c.L E body).map fun fb => sWh ft fb
  | .Pass _ => some sSkip
  | .Break _ => some sBrk
  | .Continue _ => some sCnt
  | _ => none
theorem mSt_ok (ok : CpOk c) (g : Good τ E X W) {st : Stmt} {f : Es} (h : mSt c E st = some f) : PS X st (tOfS X.K τ (WiOf X.mg X.K τ W) f) := by
  unfold mSt at h
  split at h
  · cases h; exact ps_imp ps_doc fun D σ H => t_sSkip
  · rename_i fn es ks p pos
    cases q1 : mE c E (.Call fn es ks p) with
    | none => rw [q1] at h; cases h
    | some f1 => rw [q1] at h; cases h; exact ps_imp (ps_expr (mE_ok ok g q1)) fun D σ H => t_sDrop
  · exact mAsg_ok ok g h
  · exact mAug_ok ok g h
  · cases h; exact ps_imp ps_retN fun D σ H => t_sRetN
  · rename_i e p
    cases q1 : mE c E e with
    | none => rw [q1] at h; cases h
    | some f1 => rw [q1] at h; cases h; exact ps_imp (ps_ret (mE_ok ok g q1)) fun D σ H => t_sRet
  · rename_i t a b p
    cases q1 : c.T E t with
    | none => rw [q1] at h; cases h
    | some f1 =>
      rw [q1, Option.bind_some] at h
      cases q2 : c.L E a with
      | none => rw [q2] at h; cases h
      | some f2 =>
        rw [q2, Option.bind_some] at h
        cases q3 : c.L E b with
        | none => rw [q3] at h; cases h
        | some f3 => rw [q3] at h; cases h; exact ps_imp (ps_if (ok.T g q1) (ok.L g q2) (ok.L g q3)) fun D σ H => t_sIf
  · rename_i tg iter body p
    cases q1 : c.I E iter with
    | none => rw [q1] at h; cases h
    | some f1 =>
      rw [q1, Option.bind_some] at h
      cases q2 : c.G E tg with
      | none => rw [q2] at h; cases h
      | some gg =>
        rw [q2, Option.bind_some] at h
        cases q3 : c.L E body with
        | none => rw [q3] at h; cases h
        | some f3 =>
          rw [q3] at h; cases h
          obtain ⟨p1, p2⟩ := ok.I g q1
          exact ps_imp (ps_for g.po g.calm (p1 tg) (ok.G g q2 gg.2 fun i hi => hi) (ok.L g q3) (p2 X.env)) fun D σ H => t_sFor
  · rename_i t body p
    cases q1 : c.T E t with
    | none => rw [q1] at h; cases h
    | some f1 =>
      rw [q1, Option.bind_some] at h
      cases q3 : c.L E body with
      | none => rw [q3] at h; cases h
      | some f3 => rw [q3] at h; cases h; exact ps_imp (ps_while g.po (ok.T g q1) (ok.L g q3)) fun D σ H => t_sWh
  · cases h; exact ps_imp ps_pass fun D σ H => t_sSkip
  · cases h; exact ps_imp ps_break fun D σ H => t_sBrk
  · cases h; exact ps_imp ps_continue fun D σ H => t_sCnt
  · cases h
def mSts (c : Cp) (E : CE) : List Stmt → Option Es
  | [] => some sSkip
  | [s] => c.S E s
  | s :: r => (c.S E s).bind fun f => (mSts c E r).map fun g => sSeq f g
theorem mSts_ok (ok : CpOk c) (g : Good τ E X W) : ∀ {st : List Stmt} {f : Es}, mSts c E st = some f → PSs X st (tOfS X.K τ (WiOf X.mg X.K τ W) f)
  | [], f, h => by cases h; exact pss_imp pss_nil fun D σ H => t_sSkip
  | [s], f, h => pss_one (ok.S g h)
  | s :: t :: r, f, h => by
    have h : ((c.S E s).bind fun f => (mSts c E (t :: r)).map fun g => sSeq f g) = some f := h
    cases q1 : c.S E s with
    | none => rw [q1] at h; cases h
    | some f1 =>
      rw [q1, Option.bind_some] at h
      cases q2 : mSts c E (t :: r) with
      | none => rw [q2] at h; cases h
      | some f2 => rw [q2] at h; cases h; exact pss_imp (pss_cons (ok.S g q1) (mSts_ok ok g q2)) fun D σ H => t_sSeq
def mBT (c : Cp) (E : CE) (op : BoolOp) : List Expr → Option Et
  | [] => none
  | [a] => c.T E a
  | a :: b :: r => (c.T E a).bind fun f => (mBT c E op (b :: r)).map fun g => match op with
    | .And => tAndE f g
    | .Or => tOrE f g
theorem mBT_ok (ok : CpOk c) (g : Good τ E X W) {op : BoolOp} {pos : Pos} : ∀ {vs : List Expr} {f : Et}, mBT c E op vs = some f → PW X (.BoolOp op vs pos) (tOfT X.K τ (WiOf X.mg X.K τ W) f)
  | [], f, h => by cases h
  | [a], f, h => by
    cases op with
    | And => exact pw_and1 (ok.T g h)
    | Or => exact pw_or1 (ok.T g h)
  | a :: b :: r, f, h => by
    unfold mBT at h
    cases q1 : c.T E a with
    | none => rw [q1] at h; cases h
    | some f1 =>
      rw [q1, Option.bind_some] at h
      cases q2 : mBT c E op (b :: r) with
      | none => rw [q2] at h; cases h
      | some f2 =>
        rw [q2] at h
        cases op with
        | And => cases h; exact pw_imp (pw_and (ok.T g q1) (mBT_ok ok g q2)) fun σ H Q => t_and
        | Or => cases h; exact pw_imp (pw_or (ok.T g q1) (mBT_ok ok g q2)) fun σ H Q => t_or
def mT (c : Cp) (E : CE) : Expr → Option Et
  | .UnaryOp .Not a _ => (c.T E a).map tNotE
  | .BoolOp op vs _ => mBT c E op vs
  | .Compare a [op] [b] _ => if isSet b = true then none else (mO c E a).bind fun f1 => (mO c E b).map fun f2 => tbl (mz (op2M (blM (cmpB op)) f1 f2))
  | .Compare a [op, op'] [b, d] _ => if isSet d = true then none else (mO c E a).bind fun f1 => (mO c E b).bind fun f2 => (mO c E d).map fun f3 => tbl (chnM (cmpB op) (cmpB op') f1 f2 f3)
  | e => if isTst e = true then none else (mO c E e).map tst
theorem mT_ok (ok : CpOk c) (g : Good τ E X W) {e : Expr} {f : Et} (h : mT c E e = some f) : PT X e (tOfT X.K τ (WiOf X.mg X.K τ W) f) := by
  unfold mT at h
  split at h
  · rename_i a p
    cases q1 : c.T E a with
    | none => rw [q1] at h; cases h
    | some f1 => rw [q1] at h; cases h; exact pt_imp (pt_not (ok.T g q1)) fun σ H Q => t_not
  · exact (mBT_ok ok g h).pt
  · rename_i a op b p
    by_cases hs : isSet b = true
    · rw [if_pos hs] at h; cases h
    · rw [if_neg hs] at h
      cases q2 : mO c E a with
      | none => rw [q2] at h; cases h
      | some f1 =>
        rw [q2, Option.bind_some] at h
        cases q3 : mO c E b with
        | none => rw [q3] at h; cases h
        | some f2 =>
          rw [q3] at h; cases h
          exact pt_imp (pt_cmpR (cmpB_ok g.u60 op) (mO_ok ok g q2) (mO_ok ok g q3) (behind_of (by simpa using hs))) fun σ H Q q => t_op2M (t_mz (t_tbl q))
  · rename_i a op op' b d p
    by_cases hs : isSet d = true
    · rw [if_pos hs] at h; cases h
    · rw [if_neg hs] at h
      cases q2 : mO c E a with
      | none => rw [q2] at h; cases h
      | some f1 =>
        rw [q2, Option.bind_some] at h
        cases q3 : mO c E b with
        | none => rw [q3] at h; cases h
        | some f2 =>
          rw [q3, Option.bind_some] at h
          cases q4 : mO c E d with
          | none => rw [q4] at h; cases h
          | some f3 =>
            rw [q4] at h; cases h
            exact pt_imp (pt_chain (cmpB_ok g.u60 op) (cmpB_ok g.u60 op') (mO_ok ok g q2) (mO_ok ok g q3) (mO_ok ok g q4) (show behindInMarks op' d = false from behind_of (by simpa using hs))) fun σ H Q q => t_chnM (t_tbl q)
  · by_cases hs : isTst e = true
    · rw [if_pos hs] at h; cases h
    · rw [if_neg hs] at h
      cases q2 : mO c E e with
      | none => rw [q2] at h; cases h
      | some f1 => rw [q2] at h; cases h; exact pt_imp (pt_truth (mO_ok ok g q2) fun whole => true_of (by simpa using hs)) fun σ H Q q => t_tst q
def mM (c : Cp) (E : CE) : Expr → Option Em
  | .Constant k _ _ => (cstD k).map fun d => pl (cst d)
  | .Name x _ => mName E x
  | .BoolOp op vs pos => mBool c E op pos vs
  | .BinOp a op b _ => mBin c E a op b
  | .UnaryOp op a _ => mUn c E op a
  | .IfExp t a b _ => mIf c E t a b
  | .Compare a ops bs _ => mCmp c E a ops bs
  | .Tuple es _ _ => mTup c E es
  | .List es _ => mLst c E es
  | .ListComp elt gs sc _ => (mLc c E elt gs sc).map nw
  | .Subscript a b _ => mSub c E a b
  | .Call (.Name x _) es [] _ => mCall c E x es
  | .Call (.Attribute (.Name o _) m ap) es [] pos => mMeth c E o m ap.endLine pos.line es
  | _ => none
theorem mM_ok (ok : CpOk c) (g : Good τ E X W) {e : Expr} {f : Em} (h : mM c E e = some f) : PE X e (tOfM X.K τ (WiOf X.mg X.K τ W) f) := by
  unfold mM at h
  split at h
  · rename_i k j p
    cases q : cstD k with
    | none => rw [q] at h; cases h
    | some d => rw [q] at h; cases h; exact cst_ok q
  · exact mName_ok g h
  · exact mBool_ok ok g h
  · exact mBin_ok ok g h
  · exact mUn_ok ok g h
  · exact mIf_ok ok g h
  · exact mCmp_ok ok g h
  · exact mTup_ok ok g h
  · exact mLst_ok ok g h
  · rename_i elt gs sc p
    cases q : mLc c E elt gs sc with
    | none => rw [q] at h; cases h
    | some f1 => rw [q] at h; cases h; exact mLcE_ok ok g q
  · exact mSub_ok ok g h
  · exact mCall_ok ok g h
  · exact mMeth_ok ok g h
  · cases h
def step (c : Cp) : Cp := ⟨mM c, mT c, mIt c, mTg c, mSt c, mSts c⟩
theorem step_ok (ok : CpOk c) : CpOk (step c) where
  M := fun g h => mM_ok ok g h
  T := fun g h => mT_ok ok g h
  I := fun g h => mIt_ok ok g h
  G := fun g h T hT => mTg_ok ok g h T hT
  S := fun g h => mSt_ok ok g h
  L := fun g h => mSts_ok ok g h
end
end MP

namespace MP
open PySem PySem.Spec PyProof.Rows L2

/-! ### chains of any length -/
def chL : List (CmpOp × Eo) → Opd → Store → R (D × Store)
  | [], _, _ => .bad
  | [(op, f)], o, ρ => (f ρ).bind fun y => (ofO ((res y.2 o).bind fun a => (res y.2 y.1).bind fun b => cmpB op a b)).bind fun k => .ok (.bl k, y.2)
  | (op, f) :: p :: r, o, ρ => (f ρ).bind fun y => (ofO ((res y.2 o).bind fun a => (res y.2 y.1).bind fun b => cmpB op a b)).bind fun k => if k = true then chL (p :: r) y.1 y.2 else .ok (.bl false, y.2)
def chnL (f : Eo) (l : List (CmpOp × Eo)) : Ex := fun ρ => (f ρ).bind fun x => chL l x.1 x.2
section
variable {τ : LTab} {E : CE} {X : Cx} {W : WX}
inductive ChOk (X : Cx) (τ : LTab) (Wi : WiT) : List CmpOp → List Expr → List (CmpOp × Eo) → Prop
  | nil : ChOk X τ Wi [] [] []
  | cons {op : CmpOp} {e : Expr} {f : Eo} {ops : List CmpOp} {es : List Expr} {l : List (CmpOp × Eo)} : PE X e (tOfO X.K τ Wi f) → ChOk X τ Wi ops es l → ChOk X τ Wi (op :: ops) (e :: es) ((op, f) :: l)
theorem ch_val (hu : X.A.units + 60 < cLine) {Wi : WiT} {pos : Pos} {pins : List (Addr × Obj)} {σ : L2.St} {Q : VK} : ∀ {ops : List CmpOp} {es : List Expr} {l : List (CmpOp × Eo)}, ChOk X τ Wi ops es l → ∀ {s : Shared} {H H0 : Hp} {M M0 : Addr → Prop} {F : Fr} {ρ : Store} {o : Opd} {v : V} {x : Value},
    Inv X pins σ H s → RelV v x → OpdR X.K H M σ v o → SR X.K τ F H M σ ρ → Step H0 M0 H M → (match chL l o ρ with
      | .bad => False
      | .exc c p => Wi F c p
      | .ok (d, ρ') => ∀ v H' M', Rep X.K H' M' v d → SR X.K τ F H' M' σ ρ' → Step H0 M0 H' M' → Q v H') →
    wpAny (model X.prog X.w) X.A (compareChain pos x ops (evalEach es X.env)) (EP X pins σ Q) X.xe s := by
  intro ops es l hc
  induction hc with
  | nil => intro s H H0 M M0 F ρ o v x I rv ro S st h; exact h.elim
  | @cons op e f ops es l he hc ih =>
    intro s H H0 M M0 F ρ o v x I rv ro S st h
    cases hc with
    | nil =>
      have h : (match ((f ρ).bind fun y => (ofO ((res y.2 o).bind fun a => (res y.2 y.1).bind fun b => cmpB op a b)).bind fun k => R.ok (D.bl k, y.2)) with
        | .bad => False
        | .exc c p => Wi F c p
        | .ok (d, ρ') => ∀ v H' M', Rep X.K H' M' v d → SR X.K τ F H' M' σ ρ' → Step H0 M0 H' M' → Q v H') := h
      have run : tOfO X.K τ Wi f σ H fun y H2 => rG2 X.K (blM (cmpB op)) v y H2 Q := by
        refine ⟨F, M, ρ, S, ?_⟩
        cases q : f ρ with
        | bad => rw [q] at h; exact h
        | exc c p => rw [q] at h; exact h
        | ok y =>
          rw [q, R.bind_ok] at h
          refine fun u H2 M2 r2 S2 st2 => ?_
          cases q3 : res y.2 o with
          | none => rw [q3] at h; exact h.elim
          | some a =>
            rw [q3, Option.bind_some] at h
            cases q4 : res y.2 y.1 with
            | none => rw [q4] at h; exact h.elim
            | some b =>
              rw [q4, Option.bind_some] at h
              cases q5 : cmpB op a b with
              | none => rw [q5] at h; exact h.elim
              | some k =>
                rw [q5] at h
                exact ⟨M2, a, b, .inl (.bl k), S2.dom, S2.res (ro.to st2) q3, S2.res r2 q4, by unfold blM; rw [q5]; rfl, fun z H3 hr => h z H3 M2 hr.2 (S2.new hr.1) ((st.trans st2).trans hr.1.step)⟩
      exact chain_last (thn (he.run pins s σ H _ I run) fun u s2 ⟨y, H2, I2, ry, q2⟩ => cmpB_ok hu op pins s2 σ H2 v y x u Q I2 rv ry q2)
    | @cons op' e' f' ops' es' l' he' hc' =>
      have h : (match ((f ρ).bind fun y => (ofO ((res y.2 o).bind fun a => (res y.2 y.1).bind fun b => cmpB op a b)).bind fun k => if k = true then chL ((op', f') :: l') y.1 y.2 else R.ok (D.bl false, y.2)) with
        | .bad => False
        | .exc c p => Wi F c p
        | .ok (d, ρ') => ∀ v H' M', Rep X.K H' M' v d → SR X.K τ F H' M' σ ρ' → Step H0 M0 H' M' → Q v H') := h
      have run : tOfO X.K τ Wi f σ H fun y H2 => ∃ M2 ρ2 o2, OpdR X.K H2 M2 σ y o2 ∧ SR X.K τ F H2 M2 σ ρ2 ∧ rG2 X.K (blM (cmpB op)) v y H2 fun z H3 => ∃ k, z = .bl k ∧ ∃ M3, Step H0 M0 H3 M3 ∧ SR X.K τ F H3 M3 σ ρ2 ∧ OpdR X.K H3 M3 σ y o2 ∧
          (match (if k = true then chL ((op', f') :: l') o2 ρ2 else R.ok (D.bl false, ρ2)) with
            | .bad => False
            | .exc c p => Wi F c p
            | .ok (d, ρ') => ∀ v H' M', Rep X.K H' M' v d → SR X.K τ F H' M' σ ρ' → Step H0 M0 H' M' → Q v H') := by
        refine ⟨F, M, ρ, S, ?_⟩
        cases q : f ρ with
        | bad => rw [q] at h; exact h
        | exc c p => rw [q] at h; exact h
        | ok y =>
          rw [q, R.bind_ok] at h
          refine fun u H2 M2 r2 S2 st2 => ⟨M2, y.2, y.1, r2, S2, ?_⟩
          cases q3 : res y.2 o with
          | none => rw [q3] at h; exact h.elim
          | some a =>
            rw [q3, Option.bind_some] at h
            cases q4 : res y.2 y.1 with
            | none => rw [q4] at h; exact h.elim
            | some b =>
              rw [q4, Option.bind_some] at h
              cases q5 : cmpB op a b with
              | none => rw [q5] at h; exact h.elim
              | some k =>
                rw [q5] at h
                refine ⟨M2, a, b, .inl (.bl k), S2.dom, S2.res (ro.to st2) q3, S2.res r2 q4, by unfold blM; rw [q5]; rfl, fun z H3 hr => ?_⟩
                obtain ⟨n, rz⟩ := hr
                cases rz with
                | bl => exact ⟨k, rfl, M2, (st.trans st2).trans n.step, S2.new n, r2.to n.step, h⟩
      refine chain_link (thn (he.run pins s σ H _ I run) fun u s2 ⟨y, H2, I2, ry, M2, ρ2, o2, ro2, S2, q2⟩ => thn (cmpB_ok hu op pins s2 σ H2 v y x u _ I2 rv ry q2) fun d s3 ⟨z, H3, I3, r3, k, ez, M3, st3, S3, ro3, q3⟩ => ?_)
      subst ez
      cases r3
      refine wpAny_truthy_bool ?_
      cases k with
      | false => exact ite_ff ⟨.bl false, H3, I3, rfl, q3 _ H3 M3 (.bl false) S3 st3⟩
      | true => exact ite_tt (ih I3 ry ro3 S3 st3 q3)
theorem ch_tst (hu : X.A.units + 60 < cLine) {Wi : WiT} {pos : Pos} {pins : List (Addr × Obj)} {σ : L2.St} {Q : Bool → Hp → Prop} : ∀ {ops : List CmpOp} {es : List Expr} {l : List (CmpOp × Eo)}, ChOk X τ Wi ops es l → ∀ {s : Shared} {H H0 : Hp} {M M0 : Addr → Prop} {F : Fr} {ρ : Store} {o : Opd} {v : V} {x : Value},
    Inv X pins σ H s → RelV v x → OpdR X.K H M σ v o → SR X.K τ F H M σ ρ → Step H0 M0 H M → (match chL l o ρ with
      | .bad => False
      | .exc c p => Wi F c p
      | .ok (d, ρ') => ∀ k H' M', d = .bl k → SR X.K τ F H' M' σ ρ' → Step H0 M0 H' M' → Q k H') →
    wpAny (model X.prog X.w) X.A (testChain pos x ops (evalEach es X.env)) (TP X pins σ Q) X.xe s := by
  intro ops es l hc
  induction hc with
  | nil => intro s H H0 M M0 F ρ o v x I rv ro S st h; exact h.elim
  | @cons op e f ops es l he hc ih =>
    intro s H H0 M M0 F ρ o v x I rv ro S st h
    have comm : ∀ (P : Store → Opd → Bool → Prop), (∀ ρ1 y, f ρ = .ok (y, ρ1) → ∀ k, ((ofO ((res ρ1 o).bind fun a => (res ρ1 y).bind fun b => cmpB op a b)) = .ok k → P ρ1 y k) ∧ (ofO ((res ρ1 o).bind fun a => (res ρ1 y).bind fun b => cmpB op a b)) ≠ .bad) → (f ρ ≠ .bad) → (∀ c p, f ρ = .exc c p → Wi F c p) →
        tOfO X.K τ Wi f σ H fun y H2 => ∃ M2 ρ2 o2, OpdR X.K H2 M2 σ y o2 ∧ SR X.K τ F H2 M2 σ ρ2 ∧ rG2 X.K (blM (cmpB op)) v y H2 fun z H3 => ∃ k, z = .bl k ∧ ∃ M3, Step H0 M0 H3 M3 ∧ SR X.K τ F H3 M3 σ ρ2 ∧ OpdR X.K H3 M3 σ y o2 ∧ P ρ2 o2 k := by
      intro P h1 h2 h3
      refine ⟨F, M, ρ, S, ?_⟩
      cases q : f ρ with
      | bad => exact absurd q h2
      | exc c p => exact h3 c p q
      | ok y =>
        refine fun u H2 M2 r2 S2 st2 => ⟨M2, y.2, y.1, r2, S2, ?_⟩
        have h1' := h1 y.2 y.1 q
        cases q3 : res y.2 o with
        | none => have := (h1' true).2; rw [q3] at this; exact absurd rfl this
        | some a =>
          cases q4 : res y.2 y.1 with
          | none => have := (h1' true).2; rw [q3, q4] at this; exact absurd rfl this
          | some b =>
            cases q5 : cmpB op a b with
            | none => have := (h1' true).2; rw [q3, q4, Option.bind_some, Option.bind_some, q5] at this; exact absurd rfl this
            | some k =>
              refine ⟨M2, a, b, .inl (.bl k), S2.dom, S2.res (ro.to st2) q3, S2.res r2 q4, by unfold blM; rw [q5]; rfl, fun z H3 hr => ?_⟩
              obtain ⟨n, rz⟩ := hr
              cases rz with
              | bl => exact ⟨k, rfl, M2, (st.trans st2).trans n.step, S2.new n, r2.to n.step, (h1' k).1 (by rw [q3, q4, Option.bind_some, Option.bind_some, q5]; rfl)⟩
    cases hc with
    | nil =>
      have h : (match ((f ρ).bind fun y => (ofO ((res y.2 o).bind fun a => (res y.2 y.1).bind fun b => cmpB op a b)).bind fun k => R.ok (D.bl k, y.2)) with
        | .bad => False
        | .exc c p => Wi F c p
        | .ok (d, ρ') => ∀ k H' M', d = .bl k → SR X.K τ F H' M' σ ρ' → Step H0 M0 H' M' → Q k H') := h
      have run := comm (fun ρ2 _ k => ∀ H' M', SR X.K τ F H' M' σ ρ2 → Step H0 M0 H' M' → Q k H') (fun ρ1 y q k => by
        rw [q, R.bind_ok] at h
        refine ⟨fun e => ?_, fun e => ?_⟩
        · dsimp only at h
          rw [e] at h
          exact fun H' M' S' st' => h k H' M' rfl S' st'
        · dsimp only at h
          rw [e] at h; exact h.elim) (fun e => by rw [e] at h; exact h) (fun c p e => by rw [e] at h; exact h)
      refine test_last (thn (he.run pins s σ H _ I run) fun u s2 ⟨y, H2, I2, ry, M2, ρ2, o2, ro2, S2, q2⟩ => thn (cmpB_ok hu op pins s2 σ H2 v y x u _ I2 rv ry q2) fun d s3 ⟨z, H3, I3, r3, k, ez, M3, st3, S3, ro3, q3⟩ => ?_)
      subst ez
      cases r3
      exact wpAny_truthy_bool ⟨H3, I3, q3 H3 M3 S3 st3⟩
    | @cons op' e' f' ops' es' l' he' hc' =>
      have h : (match ((f ρ).bind fun y => (ofO ((res y.2 o).bind fun a => (res y.2 y.1).bind fun b => cmpB op a b)).bind fun k => if k = true then chL ((op', f') :: l') y.1 y.2 else R.ok (D.bl false, y.2)) with
        | .bad => False
        | .exc c p => Wi F c p
        | .ok (d, ρ') => ∀ k H' M', d = .bl k → SR X.K τ F H' M' σ ρ' → Step H0 M0 H' M' → Q k H') := h
      have run := comm (fun ρ2 o2 k => match (if k = true then chL ((op', f') :: l') o2 ρ2 else R.ok (D.bl false, ρ2)) with
        | .bad => False
        | .exc c p => Wi F c p
        | .ok (d, ρ') => ∀ k H' M', d = .bl k → SR X.K τ F H' M' σ ρ' → Step H0 M0 H' M' → Q k H') (fun ρ1 y q k => by
        rw [q, R.bind_ok] at h
        refine ⟨fun e => ?_, fun e => ?_⟩
        · dsimp only at h
          rw [e] at h
          exact h
        · dsimp only at h
          rw [e] at h; exact h.elim) (fun e => by rw [e] at h; exact h) (fun c p e => by rw [e] at h; exact h)
      refine test_link (thn (he.run pins s σ H _ I run) fun u s2 ⟨y, H2, I2, ry, M2, ρ2, o2, ro2, S2, q2⟩ => thn (cmpB_ok hu op pins s2 σ H2 v y x u _ I2 rv ry q2) fun d s3 ⟨z, H3, I3, r3, k, ez, M3, st3, S3, ro3, q3⟩ => ?_)
      subst ez
      cases r3
      refine wpAny_truthy_bool ?_
      cases k with
      | false => exact ite_ff ⟨H3, I3, q3 false H3 M3 rfl S3 st3⟩
      | true => exact ite_tt (ih I3 ry ro3 S3 st3 q3)
def mChn (c : Cp) (E : CE) : List CmpOp → List Expr → Option (List (CmpOp × Eo))
  | [], [] => some []
  | op :: ops, e :: es => (mO c E e).bind fun f => (mChn c E ops es).map fun l => (op, f) :: l
  | _, _ => none
theorem mChn_ok {c : Cp} (ok : CpOk c) (g : Good τ E X W) : ∀ {ops : List CmpOp} {es : List Expr} {l : List (CmpOp × Eo)}, mChn c E ops es = some l → ChOk X τ (WiOf X.mg X.K τ W) ops es l
  | [], [], l, h => by cases h; exact .nil
  | op :: ops, e :: es, l, h => by
    unfold mChn at h
    cases q : mO c E e with
    | none => rw [q] at h; cases h
    | some f =>
      rw [q, Option.bind_some] at h
      cases q2 : mChn c E ops es with
      | none => rw [q2] at h; cases h
      | some l' => rw [q2] at h; cases h; exact .cons (mO_ok ok g q) (mChn_ok ok g q2)
  | [], _ :: _, l, h => by cases h
  | _ :: _, [], l, h => by cases h
def isIn : CmpOp → Bool
  | .In => true
  | .NotIn => true
  | _ => false
theorem marks_of {ops : List CmpOp} {es : List Expr} (h : (ops.all fun o => !isIn o) = true) : lastMarks ops es = false := by
  fun_induction lastMarks ops es with
  | case1 op e =>
    rw [List.all_cons, Bool.and_eq_true] at h
    have h1 := h.1
    refine nomark e (op := op) (fun z => ?_) fun z => ?_ <;> · rw [z] at h1; exact absurd h1 (by decide)
  | case2 op ops e es hn ih =>
    rw [List.all_cons, Bool.and_eq_true] at h
    exact ih h.2
  | case3 => rfl
def mCmpL (c : Cp) (E : CE) (a : Expr) (ops : List CmpOp) (bs : List Expr) : Option Ex := if (ops.all fun o => !isIn o) = true ∧ 2 < ops.length ∧ ops.length = bs.length then (mO c E a).bind fun f => (mChn c E ops bs).map fun l => chnL f l else none
theorem mCmpL_ok {c : Cp} (ok : CpOk c) (g : Good τ E X W) {a : Expr} {ops : List CmpOp} {bs : List Expr} {f : Ex} {pos : Pos} (h : mCmpL c E a ops bs = some f) :
    PE X (.Compare a ops bs pos) (tOfM X.K τ (WiOf X.mg X.K τ W) (pl f)) ∧ PT X (.Compare a ops bs pos) (tOfT X.K τ (WiOf X.mg X.K τ W) (tbl f)) := by
  unfold mCmpL at h
  by_cases hc : (ops.all fun o => !isIn o) = true ∧ 2 < ops.length ∧ ops.length = bs.length
  · rw [if_pos hc] at h
    cases q1 : mO c E a with
    | none => rw [q1] at h; cases h
    | some f1 =>
      rw [q1, Option.bind_some] at h
      cases q2 : mChn c E ops bs with
      | none => rw [q2] at h; cases h
      | some l =>
        rw [q2] at h; cases h
        have ch := mChn_ok ok g q2
        have pa := mO_ok ok g q1
        obtain ⟨h1, h2, h3⟩ := hc
        match ops, bs, h1, h2, h3, ch with
        | op1 :: op2 :: ops, b1 :: b2 :: bs, h1, h2, h3, ch =>
          have start : ∀ {σ : L2.St} {H : Hp} {P : Addr → V → Hp → Prop} {Q : VK}, tOf X.K τ (WiOf X.mg X.K τ W) (chnL f1 l) σ H Q → tOfO X.K τ (WiOf X.mg X.K τ W) f1 σ H fun v H1 => ∃ F M M0 H0 ρ o, OpdR X.K H1 M σ v o ∧ SR X.K τ F H1 M σ ρ ∧ Step H0 M0 H1 M ∧ (match chL l o ρ with
              | .bad => False
              | .exc c p => WiOf X.mg X.K τ W F c p
              | .ok (d, ρ') => ∀ v H' M', Rep X.K H' M' v d → SR X.K τ F H' M' σ ρ' → Step H0 M0 H' M' → Q v H') := by
            intro σ H P Q h
            obtain ⟨F, M, ρ, S, h⟩ := h
            refine ⟨F, M, ρ, S, ?_⟩
            unfold chnL at h
            cases q : f1 ρ with
            | bad => rw [q] at h; exact h
            | exc c p => rw [q] at h; exact h
            | ok x =>
              rw [q, R.bind_ok] at h
              exact fun v H1 M1 r1 S1 st1 => ⟨F, M1, M, H, x.2, x.1, r1, S1, st1, h⟩
          refine ⟨⟨fun pins s σ H Q I h => ?_⟩, ⟨fun pins s σ H Q I h => ?_⟩⟩
          · refine Compare_chain (thn (pa.run pins s σ H _ I (start (P := fun _ _ _ => True) (t_pl h))) fun x s1 ⟨v, H1, I1, r1, F, M, M0, H0, ρ, o, ro, S, st, q⟩ => ?_) (marks_of h1)
            exact ch_val g.u60 ch I1 r1 ro S st q
          · have h' := t_tbl h
            refine isTrue_chain (thn (pa.run pins s σ H _ I (start (P := fun _ _ _ => True) h')) fun x s1 ⟨v, H1, I1, r1, F, M, M0, H0, ρ, o, ro, S, st, q⟩ => ?_) (marks_of h1)
            refine ch_tst g.u60 ch I1 r1 ro S st ?_
            cases q2 : chL l o ρ with
            | bad => rw [q2] at q; exact q
            | exc c p => rw [q2] at q; exact q
            | ok y =>
              rw [q2] at q
              refine fun k H' M' ed S' st' => ?_
              obtain ⟨k', ek, hq⟩ := q (.bl k) H' M' (by rw [ed]; exact .bl k) S' st'
              cases ek
              exact hq
  · rw [if_neg hc] at h; cases h
end
end MP

namespace MP
open PySem PySem.Spec PyProof.Rows L2

/-! ### xs[::-1], xs[:0:-1] -/
theorem fm_congr {α β : Type} {f g : α → Option β} : ∀ {l : List α}, (∀ x ∈ l, f x = g x) → l.filterMap f = l.filterMap g
  | [], _ => rfl
  | x :: l, h => by rw [List.filterMap_cons, List.filterMap_cons, h x List.mem_cons_self, fm_congr fun y hy => h y (List.mem_cons_of_mem _ hy)]
theorem pick_rev {α : Type} : ∀ (r : List α), (List.range r.length).filterMap (fun m => r.reverse[r.length - 1 - m]?) = r
  | [] => rfl
  | a :: r => by
    rw [List.length_cons, List.range_succ_eq_map, List.filterMap_cons]
    have e0 : (a :: r).reverse[r.length + 1 - 1 - 0]? = some a := by
      rw [List.reverse_cons, List.getElem?_append_right (by rw [List.length_reverse]; omega), List.length_reverse]
      simp
    rw [e0, List.filterMap_map]
    refine congrArg (List.cons a) ?_
    refine Eq.trans ?_ (pick_rev r)
    refine fm_congr fun m hm => ?_
    have := List.mem_range.mp hm
    show (a :: r).reverse[r.length + 1 - 1 - (m + 1)]? = _
    rw [List.reverse_cons, List.getElem?_append_left (by rw [List.length_reverse]; omega)]
    congr 1
    omega
theorem pick_revD {α : Type} (xs : List α) (z : Nat) : (List.range (xs.length - z)).filterMap (fun m => xs[xs.length - 1 - m]?) = (xs.drop z).reverse := by
  have h := pick_rev (xs.drop z).reverse
  rw [List.length_reverse, List.reverse_reverse, List.length_drop] at h
  rw [← h]
  refine fm_congr fun m hm => ?_
  have := List.mem_range.mp hm
  rw [List.getElem?_drop]
  congr 1
  omega
def hiOf : Bool → Option Int
  | true => none
  | false => some 0
def zOf : Bool → Nat
  | true => 0
  | false => 1
theorem adj_rev (b : Bool) (n : Nat) : Builtin.Slice.sliceAdjust none (hiOf b) (-1) (n : Int) = ((n : Int) - 1, if n = 0 then -1 else ((zOf b : Nat) : Int) - 1) := by
  cases b with
  | true =>
    show ((n : Int) - 1, (-1 : Int)) = ((n : Int) - 1, if n = 0 then -1 else ((0 : Nat) : Int) - 1)
    by_cases h : n = 0
    · rw [if_pos h]
    · rw [if_neg h]; rfl
  | false =>
    show ((n : Int) - 1, min (0 : Int) ((n : Int) - 1)) = ((n : Int) - 1, if n = 0 then -1 else ((1 : Nat) : Int) - 1)
    by_cases h : n = 0
    · subst h; rfl
    · rw [if_neg h]
      refine Prod.ext rfl ?_
      show min (0 : Int) ((n : Int) - 1) = ((1 : Nat) : Int) - 1
      omega
theorem places_rev (b : Bool) (n : Nat) : Builtin.Slice.slicePlaces ((n : Int) - 1) (if n = 0 then -1 else ((zOf b : Nat) : Int) - 1) (-1) = n - zOf b := by
  unfold Builtin.Slice.slicePlaces
  have h1 : ¬ ((-1 : Int) > 0) := by decide
  rw [if_neg h1, show (-(-1) : Int) = 1 by decide, Int.ediv_one]
  by_cases h : n = 0
  · subst h
    cases b <;> rfl
  · rw [if_neg h]
    cases b with
    | true =>
      show (if (n : Int) - 1 > ((0 : Nat) : Int) - 1 then (n : Int) - 1 - (((0 : Nat) : Int) - 1) - 1 + 1 else 0).toNat = n - 0
      rw [if_pos (by omega)]; omega
    | false =>
      show (if (n : Int) - 1 > ((1 : Nat) : Int) - 1 then (n : Int) - 1 - (((1 : Nat) : Int) - 1) - 1 + 1 else 0).toNat = n - 1
      by_cases h2 : (n : Int) - 1 > ((1 : Nat) : Int) - 1
      · rw [if_pos h2]; omega
      · rw [if_neg h2]; omega
theorem bounds_rev (b : Bool) (n : Nat) : sliceBounds none (hiOf b) (some (-1)) n = ((n : Int) - 1, if n = 0 then -1 else ((zOf b : Nat) : Int) - 1, -1) := by
  cases b with
  | true =>
    show ((n : Int) - 1, (-1 : Int), (-1 : Int)) = ((n : Int) - 1, (if n = 0 then -1 else ((0 : Nat) : Int) - 1), -1)
    by_cases h : n = 0
    · rw [if_pos h]
    · rw [if_neg h]; rfl
  | false =>
    show ((n : Int) - 1, max (-1 : Int) (min 0 ((n : Int) - 1)), (-1 : Int)) = ((n : Int) - 1, (if n = 0 then -1 else ((1 : Nat) : Int) - 1), -1)
    by_cases h : n = 0
    · subst h; rfl
    · rw [if_neg h]
      have : max (-1 : Int) (min 0 ((n : Int) - 1)) = ((1 : Nat) : Int) - 1 := by omega
      rw [this]
theorem range_rev (b : Bool) (n : Nat) : sliceRange ((n : Int) - 1) (if n = 0 then -1 else ((zOf b : Nat) : Int) - 1) (-1) = (List.range (n - zOf b)).map fun k => n - 1 - k := by
  unfold sliceRange
  have h1 : ¬ ((-1 : Int) > 0) := by decide
  rw [if_neg h1, show (-(-1) : Int) = 1 by decide, Int.ediv_one]
  have e : (if (n : Int) - 1 > (if n = 0 then -1 else ((zOf b : Nat) : Int) - 1) then (n : Int) - 1 - (if n = 0 then -1 else ((zOf b : Nat) : Int) - 1) - -1 - 1 else 0).toNat = n - zOf b := by
    by_cases h : n = 0
    · subst h
      cases b <;> rfl
    · rw [if_neg h]
      cases b with
      | true =>
        show (if (n : Int) - 1 > ((0 : Nat) : Int) - 1 then (n : Int) - 1 - (((0 : Nat) : Int) - 1) - -1 - 1 else 0).toNat = n - 0
        rw [if_pos (by omega)]; omega
      | false =>
        show (if (n : Int) - 1 > ((1 : Nat) : Int) - 1 then (n : Int) - 1 - (((1 : Nat) : Int) - 1) - -1 - 1 else 0).toNat = n - 1
        by_cases h2 : (n : Int) - 1 > ((1 : Nat) : Int) - 1
        · rw [if_pos h2]; omega
        · rw [if_neg h2]; omega
  show List.map (fun k : Nat => ((n : Int) - 1 + -1 * (k : Int)).toNat) (List.range (if (n : Int) - 1 > (if n = 0 then -1 else ((zOf b : Nat) : Int) - 1) then (n : Int) - 1 - (if n = 0 then -1 else ((zOf b : Nat) : Int) - 1) - -1 - 1 else 0).toNat) = _
  rw [e]
  refine List.map_congr_left fun k hk => ?_
  have := List.mem_range.mp hk
  omega
theorem pick_list (its : Array Value) (b : Bool) : slicePick its none (hiOf b) (some (-1)) = ((its.toList.drop (zOf b)).reverse).toArray := by
  unfold slicePick
  rw [bounds_rev, range_rev, List.filterMap_map, ← pick_revD]
  refine congrArg List.toArray ?_
  rw [Array.length_toList]
  refine fm_congr fun m _ => ?_
  show its[its.size - 1 - m]? = its.toList[its.size - 1 - m]?
  rw [Array.getElem?_toList]
section
variable {prog : Program} {w : World} {A : Around} {E : Value → Shared → Prop} {s : Shared}
theorem part_of {v : Value} {o : Option Int} {Q : Option Int → Shared → Prop} (p : IsPart v o) (h : Q o s) : wpAny (model prog w) A (Builtin.Slice.slicePartIndex v) Q E s := HT.slicePart_ p h
theorem tup_rev {t sl : Addr} {its : Array Value} {vl vu vs : Value} {b : Bool} {Q : Value → Shared → Prop} (ht : IsTup s.heap t its) (hs : s.heap.IsSliceOf sl vl vu vs) (pl : IsPart vl none) (pu : IsPart vu (hiOf b)) (ps : IsPart vs (some (-1)))
    (h : Q (.ref s.heap.objs.size) { s with heap := s.heap.push { cls := .type "tuple", data := .seq ((its.toList.drop (zOf b)).reverse).toArray } }) (hz : its.size ≤ sizeLine) : wpAny (model prog w) A (getItem (.ref t) (.ref sl)) Q E s := by
  obtain ⟨o3, h3, c3, d3⟩ := id hs
  have ty : s.TypeIs (.ref sl) "slice" := ⟨o3, h3, c3⟩
  have sz : sizeOk (.seq ((its.toList.drop (zOf b)).reverse).toArray) := by
    show (((its.toList.drop (zOf b)).reverse).toArray).size ≤ sizeLine
    rw [List.size_toArray, List.length_reverse, List.length_drop, Array.length_toList]; omega
  unfold getItem
  try with_reducible refine wpAny_holding ?_
  first | refine wpAny_bind (wpAny_pure ?_) | skip
  refine wpAny_bind (wpAny_sequenceKey ht.typeIs (by decide) ?_)
  refine wpAny_bind (wpAny_callSpecial?_slot (name := Str.ofString "__getitem__") ht.typeIs PyProof.Rows.slot_tuple_getitem (wpAny_call_entry PyProof.Rows.slot_tuple_getitem ht.typeIs entry_tuple_getitem ?_ (args_tuple_getitem _ _)))
  show wpAny _ _ (Builtin.Tuple.tupleItemsOf (.ref t) >>= fun _ => _) _ _ s
  refine wpAny_bind (tupleItemsOf_ ht ?_)
  refine wpAny_bind (wpAny_typeOf ty ?_)
  rw [if_pos (by decide)]
  refine wpAny_bind ?_
  unfold Builtin.Slice.sliceApplied Builtin.Slice.sliceFields
  refine wpAny_bind (wpAny_bind (wpAny_field h3 d3 (x := vl) rfl (wpAny_bind (wpAny_field h3 d3 (x := vu) rfl (wpAny_bind (wpAny_field h3 d3 (x := vs) rfl (wpAny_pure ?_)))))))
  refine wpAny_bind (part_of ps ?_)
  show wpAny _ _ (if ((-1 : Int) == 0) = true then _ else _) _ _ s
  rw [if_neg (by decide)]
  refine wpAny_bind (part_of pl (wpAny_bind (part_of pu (wpAny_bind (wpAny_pure ?_)))))
  show wpAny _ _ (match Builtin.Slice.sliceAdjust none (hiOf b) (-1) (its.size : Int) with | (lo, hi) => pure (lo, (-1 : Int), Builtin.Slice.slicePlaces lo hi (-1))) _ _ s
  rw [adj_rev]
  show wpAny _ _ (pure ((its.size : Int) - 1, (-1 : Int), Builtin.Slice.slicePlaces ((its.size : Int) - 1) (if its.size = 0 then -1 else ((zOf b : Nat) : Int) - 1) (-1))) _ _ s
  rw [places_rev]
  refine wpAny_pure ?_
  have hno : ¬ ((((its.size : Int) - 1) == 0 && (-1 : Int) == 1 && (its.size - zOf b) == its.size) = true) := by
    intro q
    rw [Bool.and_eq_true, Bool.and_eq_true] at q
    exact absurd q.1.2 (by decide)
  show wpAny _ _ (if (((its.size : Int) - 1) == 0 && (-1 : Int) == 1 && (its.size - zOf b) == its.size) = true then _ else _) _ _ s
  rw [if_neg hno]
  have e : ((List.range (its.size - zOf b)).filterMap fun (k : Nat) => its[((its.size : Int) - 1 + (k : Int) * (-1)).toNat]?).toArray = ((its.toList.drop (zOf b)).reverse).toArray := by
    refine congrArg List.toArray ?_
    rw [← pick_revD, Array.length_toList]
    refine fm_congr fun m hm => ?_
    have := List.mem_range.mp hm
    rw [Array.getElem?_toList]
    congr 1
    omega
  rw [e]
  first
    | exact wpAny_bind (m := Builtin.Tuple.tupleExact _) (wpAny_newObj_type (wpAny_pure ⟨_, rfl, wpAny_pure h⟩) sz)
    | exact wpAny_bind (m := Builtin.Tuple.tupleExact _) (wpAny_newObj_type (wpAny_bind (wpAny_pure (wpAny_pure ⟨_, rfl, wpAny_pure h⟩))) sz)
    | exact wpAny_bind (wpAny_bind (m := Builtin.Tuple.tupleExact _) (wpAny_newObj_type (wpAny_pure (wpAny_pure ⟨_, rfl, wpAny_pure h⟩)) sz))
    | exact wpAny_bind (wpAny_bind (m := Builtin.Tuple.tupleExact _) (wpAny_newObj_type (wpAny_pure ⟨_, rfl, wpAny_pure h⟩) sz))
end
def revG (b : Bool) : D → Option Res
  | .lst xs => some (.inr (xs.drop (zOf b)).reverse)
  | .tup xs => some (.inl (.tup (xs.drop (zOf b)).reverse))
  | _ => none
def hiE (b : Bool) (k0 : Nat) (p0 : Pos) : Option Expr := if b = true then none else some (.Constant (.int 0) k0 p0)
theorem hi_run {X : Cx} {b : Bool} {k0 : Nat} {p0 : Pos} {pins : List (Addr × Obj)} {σ : L2.St} {H1 : Hp} {s2 : Shared} (I2 : Inv X pins σ H1 s2) :
    wpAny (model X.prog X.w) X.A (evalPart (hiE b k0 p0) X.env) (fun u s3 => IsPart u (hiOf b) ∧ Inv X pins σ H1 s3) X.xe s2 := by
  cases b with
  | true => exact thn (po_none.run pins s2 σ H1 (fun o H2 => o = none ∧ H2 = H1) I2 ⟨rfl, rfl⟩) fun vl s3 ⟨l, H2, I3, pl, el, e2⟩ => by subst el e2; exact ⟨pl, I3⟩
  | false => exact thn ((po_some (pe_int (X := X) (i := 0) (j := k0) (pos := p0))).run pins s2 σ H1 (fun o H2 => o = some 0 ∧ H2 = H1) I2 ⟨0, rfl, rfl, rfl⟩) fun vl s3 ⟨l, H2, I3, pl, el, e2⟩ => by subst el e2; exact ⟨pl, I3⟩
theorem pe_rev {X : Cx} {e : Expr} {te : TE} {b : Bool} {k k0 : Nat} {p0 p1 p2 p3 pos : Pos} (he : PE X e te) : PE X (.Subscript e (.Slice none (hiE b k0 p0) (some (.UnaryOp .USub (.Constant (.int 1) k p1) p2)) p3) pos) (tUn (rG1 X.K (revG b)) te) := by
  refine ⟨fun pins s σ H Q I h => ?_⟩
  refine Subscript_ (thn (he.run pins s σ H _ I h) fun v s1 ⟨x, H1, I1, r1, q1⟩ => ?_)
  have hst : PO X (some (.UnaryOp .USub (.Constant (.int 1) k p1) p2)) (tPart (tUn (rU fun i => .int (-i)) (tC (.int 1)))) := po_some (pe_un un_neg pe_int)
  refine wpAny_Slice (thn (po_none.run pins s1 σ H1 (fun o H2 => o = none ∧ H2 = H1) I1 ⟨rfl, rfl⟩) fun vl s2 ⟨l, H2, I2, pl, el, e2⟩ => ?_)
  subst el e2
  refine thn (hi_run I2) fun vu s3 ⟨pu, I3⟩ => ?_
  refine thn (hst.run pins s3 σ H2 (fun o H4 => o = some (-1) ∧ H4 = H2) I3 ⟨1, rfl, -1, rfl, rfl, rfl⟩) fun vs s4 ⟨o, H4, I4, ps, eo, e4⟩ => ?_
  subst eo e4
  have I5 : Inv X pins σ H4 { s4 with heap := s4.heap.push { cls := .type "slice", data := .fields #[vl, vu, vs] } } := I4.kept (t' := s4.toks) fun b ob q => Heap.get?_push_of_some _ q
  obtain ⟨M, a, r, dom, ra, e, q⟩ := q1
  unfold revG at e
  split at e
  · rename_i xs
    cases e
    obtain ⟨p, ys, ex, hl, r2⟩ := ra.lst
    subst ex
    cases r1
    obtain ⟨its, rr, ht, hz⟩ := I5.list (SqL.of (K := X.K) hl)
    refine tail_any (ops := [.ref p, .ref s4.heap.objs.size]) ht.isList.typeIs (PySem.slot_list_getitem.lookup) ?_ (by cases b <;> with_unfolding_all rfl)
    refine wpAny_getItem_list_slice ht.isList (Heap.IsSliceOf.new _ vl vu vs) pl pu ps (by decide) ?_ (by rw [List.size_toArray, ← rr.length]; exact hz)
    rw [pick_list]
    refine ⟨.ref _, _, I5.laid (t' := s4.toks) (o := .lst (ys.drop (zOf b)).reverse) (fun b ob q => Heap.get?_push_of_some _ q) (Nat.le_refl _) ?_, rfl, q _ _ (new_lst (I5.hok.fresh (Nat.le_refl _)) (r2.drop _).reverse)⟩
    exact ⟨by rw [List.length_reverse, List.length_drop]; omega, _, 0, (rr.drop _).reverse, Heap.get?_push_size _ rfl⟩
  · rename_i xs
    cases e
    obtain ⟨p, ys, ex, hl, r2⟩ := ra.tup
    subst ex
    cases r1
    obtain ⟨its, rr, ht, hz⟩ := I5.tuple hl
    refine tail_any (ops := [.ref p, .ref s4.heap.objs.size]) (ht.typeIs (s := { s4 with heap := s4.heap.push { cls := .type "slice", data := .fields #[vl, vu, vs] } })) PyProof.Rows.slot_tuple_getitem.lookup ?_ (by cases b <;> with_unfolding_all rfl)
    refine tup_rev ht (Heap.IsSliceOf.new _ vl vu vs) pl pu ps ?_ (by rw [List.size_toArray, ← rr.length]; exact hz)
    refine ⟨.ref _, _, I5.laid (t' := s4.toks) (o := .tup (ys.drop (zOf b)).reverse) (fun b ob q => Heap.get?_push_of_some _ q) (Nat.le_refl _) ?_, rfl, q _ _ (new_tup (I5.hok.fresh (Nat.le_refl _)) (r2.drop _).reverse)⟩
    exact ⟨by rw [List.length_reverse, List.length_drop]; omega, _, (rr.drop _).reverse, IsTup.new _ _⟩
  · cases e
end MP

namespace MP
open PySem PySem.Spec PyProof.Rows L2

/-! ### list(range ..), tuple(range ..), reversed(..) -/
def tpF (f : Ef) : Ex := fun ρ => (f ρ).bind fun x => .ok (.tup x.1, x.2)
def rvI (f : Ei) : Ei := fun ρ => (f ρ).bind fun x => if x.1.length ≤ 16777216 then .ok (x.1.reverse, x.2) else .bad
section
variable {K : PySem.W.Frag} {τ : LTab} {Wi : WiT} {F : Fr} {H H' : Hp} {M M' : Addr → Prop} {σ : L2.St} {ρ : Store} {ds : List D}
theorem rgV_rep (a b : Int) : RepL K H M (rgV a b) (rng a b) := by
  unfold rgV rng
  have h := repL_ints (K := K) (H := H) (M := M) ((List.range (b - a).toNat).map fun i => a + (i : Nat))
  rw [List.map_map, List.map_map] at h
  exact h
theorem rgOk_R {a b : Int} (h : rgOk a b = true) : RgOk a b := by
  have := rgOk_iff.mp h
  exact ⟨by omega, by omega, by omega, by omega, by omega⟩
/-- the ends of a range by its operands -/
theorem rg_ends1 {f : Eo} {P : Int → Int → Hp → Prop} (h : ∃ F M ρ, SR K τ F H M σ ρ ∧ match itR ints1 (aCons f xNil) ρ with
      | .bad => False
      | .exc c p => Wi F c p
      | .ok (ds, ρ') => ∀ a b H' M', rgOk a b = true → ds = rng a b → SR K τ F H' M' σ ρ' → Step H M H' M' → P a b H') : tRg1 (tOfO K τ Wi f) σ H P := by
  obtain ⟨F, M, ρ, S, h⟩ := h
  refine ⟨F, M, ρ, S, ?_⟩
  unfold itR aCons at h
  cases q : f ρ with
  | bad => rw [q] at h; exact h
  | exc c p => rw [q] at h; exact h
  | ok x =>
    obtain ⟨o, ρ1⟩ := x
    rw [q, R.bind_ok] at h
    refine fun v H1 M1 r1 S1 st1 => ?_
    have h : (match (ofO ((resL ρ1 [o]).bind ints1)).bind fun ds => R.ok (ds, ρ1) with
      | .bad => False
      | .exc c p => Wi F c p
      | .ok (ds, ρ') => ∀ a b H' M', rgOk a b = true → ds = rng a b → SR K τ F H' M' σ ρ' → Step H M H' M' → P a b H') := h
    cases q3 : MP.res ρ1 o with
    | none =>
      have e : resL ρ1 [o] = none := by show (MP.res ρ1 o).bind _ = _; rw [q3]; rfl
      rw [e] at h; exact h.elim
    | some d =>
      have e : resL ρ1 [o] = some [d] := by show (MP.res ρ1 o).bind _ = _; rw [q3]; rfl
      rw [e, Option.bind_some] at h
      cases q5 : ints1 [d] with
      | none => rw [q5] at h; exact h.elim
      | some ds =>
        rw [q5] at h
        obtain ⟨n, ea, hr, ed⟩ := ints1_some q5
        cases ea
        exact ⟨n, res_int S1 r1 q3, h 0 n H1 M1 hr ed S1 st1⟩
theorem rg_ends2 {f g : Eo} {P : Int → Int → Hp → Prop} (h : ∃ F M ρ, SR K τ F H M σ ρ ∧ match itR ints2 (aCons f (aCons g xNil)) ρ with
      | .bad => False
      | .exc c p => Wi F c p
      | .ok (ds, ρ') => ∀ a b H' M', rgOk a b = true → ds = rng a b → SR K τ F H' M' σ ρ' → Step H M H' M' → P a b H') : tRg2 (tOfO K τ Wi f) (tOfO K τ Wi g) σ H P := by
  obtain ⟨F, M, ρ, S, h⟩ := h
  refine ⟨F, M, ρ, S, ?_⟩
  unfold itR aCons at h
  cases q : f ρ with
  | bad => rw [q] at h; exact h
  | exc c p => rw [q] at h; exact h
  | ok x =>
    obtain ⟨o, ρ1⟩ := x
    rw [q, R.bind_ok] at h
    refine fun v H1 M1 r1 S1 st1 => ⟨F, M1, ρ1, S1, ?_⟩
    cases qg : g ρ1 with
    | bad => rw [qg] at h; exact h
    | exc c p => rw [qg] at h; exact h
    | ok y =>
      obtain ⟨o2, ρ2⟩ := y
      rw [qg, R.bind_ok] at h
      refine fun u H2 M2 r2 S2 st2 => ?_
      have h : (match (ofO ((resL ρ2 [o, o2]).bind ints2)).bind fun ds => R.ok (ds, ρ2) with
        | .bad => False
        | .exc c p => Wi F c p
        | .ok (ds, ρ') => ∀ a b H' M', rgOk a b = true → ds = rng a b → SR K τ F H' M' σ ρ' → Step H M H' M' → P a b H') := h
      cases q3 : MP.res ρ2 o with
      | none =>
        have e : resL ρ2 [o, o2] = none := by show (MP.res ρ2 o).bind _ = _; rw [q3]; rfl
        rw [e] at h; exact h.elim
      | some d =>
        cases q4 : MP.res ρ2 o2 with
        | none =>
          have e : resL ρ2 [o, o2] = none := by simp only [resL, q3, q4, Option.bind_some, Option.bind_none]
          rw [e] at h; exact h.elim
        | some d2 =>
          have e : resL ρ2 [o, o2] = some [d, d2] := by simp only [resL, q3, q4, Option.bind_some, Option.bind_none]
          rw [e, Option.bind_some] at h
          cases q5 : ints2 [d, d2] with
          | none => rw [q5] at h; exact h.elim
          | some ds =>
            rw [q5] at h
            obtain ⟨n, m, ea, hr, ed⟩ := ints2_some q5
            cases ea
            exact ⟨n, m, res_int S2 (r1.to st2) q3, res_int S2 r2 q4, h n m H2 M2 hr ed S2 (st1.trans st2)⟩
/-- what list(..), tuple(..), reversed(..) over it ask -/
def rgK (K : PySem.W.Frag) (τ : LTab) (Wi : WiT) (f : Ei) (σ : L2.St) (H : Hp) (P : Int → Int → Hp → Prop) : Prop := ∃ F M ρ, SR K τ F H M σ ρ ∧ match f ρ with
      | .bad => False
      | .exc c p => Wi F c p
      | .ok (ds, ρ') => ∀ a b H' M', rgOk a b = true → ds = rng a b → SR K τ F H' M' σ ρ' → Step H M H' M' → P a b H'
theorem t_lstRg {f : Ei} {Q : VK} (h : tOfM K τ Wi (nw f) σ H Q) : rgK K τ Wi f σ H fun a b H1 => RgOk a b ∧ ∀ q, H1 q = none → Q (.ref q) (upd H1 q (.lst (rgV a b))) := by
  obtain ⟨F, M, ρ, S, h⟩ := t_nw h
  refine ⟨F, M, ρ, S, ?_⟩
  cases q : f ρ with
  | bad => rw [q] at h; exact h
  | exc c p => rw [q] at h; exact h
  | ok x =>
    rw [q] at h
    refine fun a b H' M' hr ed S' st => ⟨rgOk_R hr, fun p hp => h p _ ?_⟩
    rw [ed]
    exact ⟨H', M', rgV a b, S', hp, New.upd hp, upd_same, rgV_rep a b, st⟩
theorem t_tupRg {f : Ei} {Q : VK} (h : tOfM K τ Wi (pl (tpF f)) σ H Q) : rgK K τ Wi f σ H fun a b H1 => RgOk a b ∧ ∀ q, H1 q = none → Q (.ref q) (upd H1 q (.tup (rgV a b))) := by
  obtain ⟨F, M, ρ, S, h⟩ := t_pl h
  refine ⟨F, M, ρ, S, ?_⟩
  unfold tpF at h
  cases q : f ρ with
  | bad => rw [q] at h; exact h
  | exc c p => rw [q] at h; exact h
  | ok x =>
    rw [q] at h
    refine fun a b H' M' hr ed S' st => ⟨rgOk_R hr, fun p hp => h (.ref p) _ M' ?_ (S'.new (New.upd hp)) (st.trans (New.upd hp).step)⟩
    show Rep K _ M' (.ref p) (.tup x.1)
    rw [ed]
    exact .tup (.inl ⟨upd_same, id, False.elim⟩) ((rgV_rep a b).to (New.upd hp).step)
theorem itOk_rgR {a b : Int} (h : rgOk a b = true) : ItOk K (Itc (a + (((b - a).toNat : Nat) : Int) - 1) (-1) (b - a).toNat) H M (rng a b).reverse := by
  have hb := rgOk_iff.mp h
  refine ⟨by unfold rng; rw [List.length_reverse, List.length_map, List.length_range, sizeLine_eq]; omega, fun H2 M2 st dom => ⟨fun i d hd => ?_, ?_⟩⟩
  · have hl : (rng a b).length = (b - a).toNat := by unfold rng; rw [List.length_map, List.length_range]
    have hi : i < (rng a b).length := by
      have := (List.getElem?_eq_some_iff.mp hd).1
      rw [List.length_reverse] at this
      exact this
    rw [List.getElem?_reverse hi] at hd
    unfold rng at hd hl hi
    rw [List.getElem?_map] at hd
    rw [hl] at hi
    rw [hl, List.getElem?_range (by omega)] at hd
    cases hd
    refine ⟨hi, fun x H3 hy => ?_⟩
    obtain ⟨e, ex⟩ := hy
    subst e; subst ex
    refine ⟨New.refl, ?_⟩
    have e : a + (((b - a).toNat : Nat) : Int) - 1 + ((i : Nat) : Int) * (-1) = a + (((b - a).toNat - 1 - i : Nat) : Int) := by omega
    rw [e]
    exact .int _
  · show (b - a).toNat ≤ (rng a b).reverse.length
    unfold rng
    rw [List.length_reverse, List.length_map, List.length_range]
    omega
theorem t_revRg {f : Ei} {Rr : It → Hp → Prop} (h : tOfI K τ Wi (rvI f) σ H Rr) : rgK K τ Wi f σ H fun a b H1 => -(2 ^ 62) ≤ a ∧ a < 2 ^ 62 ∧ -(2 ^ 62) ≤ b ∧ b < 2 ^ 62 ∧ Rr (Itc (a + (((b - a).toNat : Nat) : Int) - 1) (-1) (b - a).toNat) H1 := by
  obtain ⟨F, M, ρ, S, h⟩ := h
  refine ⟨F, M, ρ, S, ?_⟩
  unfold rvI at h
  cases q : f ρ with
  | bad => rw [q] at h; exact h
  | exc c p => rw [q] at h; exact h
  | ok x =>
    obtain ⟨ds, ρ1⟩ := x
    rw [q, R.bind_ok] at h
    refine fun a b H' M' hr ed S' st => ?_
    have hb := rgOk_iff.mp hr
    by_cases hl : ds.length ≤ 16777216
    · rw [if_pos hl] at h
      refine ⟨by omega, by omega, by omega, by omega, h _ H' M' ?_ S' st⟩
      show ItOk K _ H' M' ds.reverse
      rw [show ds = rng a b from ed]
      exact itOk_rgR hr
    · rw [if_neg hl] at h; exact h.elim
theorem rev_get {α : Type} {xs : List α} {i : Nat} {d : α} (h : xs.reverse[i]? = some d) : i < xs.length ∧ xs[xs.length - 1 - i]? = some d := by
  have hi : i < xs.length := by
    have := (List.getElem?_eq_some_iff.mp h).1
    rw [List.length_reverse] at this
    exact this
  rw [List.getElem?_reverse hi] at h
  exact ⟨hi, h⟩
theorem itOk_revL {a : Addr} {vs : List V} (f : Fx H M a (.lst vs)) (r : RepL K H M vs ds) (hz : vs.length ≤ sizeLine) : ItOk K (Itv K a vs.length) H M ds.reverse := by
  refine ⟨by rw [List.length_reverse, ← r.length]; exact hz, fun H2 M2 st dom => ?_⟩
  have f2 := st _ _ f
  have r2 := r.to st
  refine ⟨fun i d hd => ?_, by show vs.length ≤ _; rw [List.length_reverse, r.length]; exact Nat.le_refl _⟩
  obtain ⟨hi, hd⟩ := rev_get hd
  obtain ⟨v, hv, rv⟩ := r2.get hd
  rw [← r.length] at hv hi
  refine ⟨⟨hi, vs, v, SqL.ofFx f2, hv⟩, fun x H3 hy => ?_⟩
  obtain ⟨e, hy⟩ := hy
  subst e
  have e2 := hy vs (SqL.ofFx f2)
  rw [hv] at e2
  cases e2
  exact ⟨New.refl, rv⟩
theorem itOk_revT {a : Addr} {vs : List V} (f : Fx H M a (.tup vs) ∨ KTup K a vs) (r : RepL K H M vs ds) (hz : vs.length ≤ sizeLine) : ItOk K (RT.ItvT K a vs.length) H M ds.reverse := by
  refine ⟨by rw [List.length_reverse, ← r.length]; exact hz, fun H2 M2 st dom => ?_⟩
  have f2 := f.imp (st _ _) id
  have r2 := r.to st
  refine ⟨fun i d hd => ?_, by show vs.length ≤ _; rw [List.length_reverse, r.length]; exact Nat.le_refl _⟩
  obtain ⟨hi, hd⟩ := rev_get hd
  obtain ⟨v, hv, rv⟩ := r2.get hd
  rw [← r.length] at hv hi
  refine ⟨⟨hi, vs, v, SqT.ofFx f2, hv⟩, fun x H3 hy => ?_⟩
  obtain ⟨e, hy⟩ := hy
  subst e
  have e2 := hy vs (SqT.ofFx f2)
  rw [hv] at e2
  cases e2
  exact ⟨New.refl, rv⟩
theorem t_rv {f : Ex} {Rr : It → Hp → Prop} (h : tOfI K τ Wi (rvI (itV f)) σ H Rr) : RT.iRevA K (tOf K τ Wi f) σ H Rr := by
  obtain ⟨F, M, ρ, S, h⟩ := h
  refine ⟨F, M, ρ, S, ?_⟩
  unfold rvI itV at h
  cases q : f ρ with
  | bad => rw [q] at h; exact h
  | exc c p => rw [q] at h; exact h
  | ok x =>
    obtain ⟨d, ρ1⟩ := x
    rw [q, R.bind_ok] at h
    refine fun v H1 M1 r1 S1 st1 => ?_
    cases r1 with
    | @tup a vs ds f1 r1 =>
      rw [R.bind_ok] at h
      by_cases hl : ds.length ≤ 16777216
      · rw [if_pos hl] at h
        exact ⟨a, vs, rfl, .inr ⟨SqT.ofFx f1, h _ H1 M1 (itOk_revT f1 r1 (by rw [r1.length, sizeLine_eq]; exact hl)) S1 st1⟩⟩
      · rw [if_neg hl] at h; exact h.elim
    | @lst a vs ds f1 r1 =>
      rw [R.bind_ok] at h
      by_cases hl : ds.length ≤ 16777216
      · rw [if_pos hl] at h
        exact ⟨a, vs, rfl, .inl ⟨SqL.ofFx f1, h _ H1 M1 (itOk_revL f1 r1 (by rw [r1.length, sizeLine_eq]; exact hl)) S1 st1⟩⟩
      · rw [if_neg hl] at h; exact h.elim
    | _ => exact h.elim
/-! ### xs.index(x), xs.count(n) -/
def idxL (ds : List D) (d : D) : Option Nat := ds.findIdx? fun z => eqv z d
def idxG (a d : D) : Option Res := match a with
  | .lst ds => if shp (.lst ds) = true ∧ shp d = true then (idxL ds d).map fun j => .inl (.int (j : Nat)) else none
  | _ => none
def cntG (a d : D) : Option Res := match a, d with
  | .lst ds, .int k => (intsOf ds).map fun ns => .inl (.int (ns.count k : Nat))
  | _, _ => none
/-- o.m(e), o a list -/
def mthM (g : D → D → Option Res) (f1 f2 : Eo) : Em := fun ρ => (f1 ρ).bind fun x => match res x.2 x.1 with
  | some (.lst _) => (f2 x.2).bind fun y => (ofO ((res y.2 x.1).bind fun a => (res y.2 y.1).bind fun b => g a b)).bind fun d => .ok (d, y.2)
  | _ => .bad
theorem RepM.tyl {v : V} {ds : List D} (h : RepM K H M v (.lst ds)) : tyV K "list" v H := by
  obtain ⟨p, vs, rfl, h2, _⟩ := h.lst
  exact .inl ⟨rfl, _, SqL.of h2⟩
theorem t_mthM {g : D → D → Option Res} {r : V → List V → Hp → VK → Prop} {f1 f2 : Eo} {Q : VK} (hr : ∀ x y H Q, rG2 K g x y H Q → r x [y] H Q) (h : tOfM K τ Wi (mthM g f1 f2) σ H Q) : tBM K "list" r (tOfO K τ Wi f1) (tCons (tOfO K τ Wi f2) tNil) σ H Q := by
  obtain ⟨F, M, ρ, S, h⟩ := h
  refine ⟨F, M, ρ, S, ?_⟩
  unfold mthM at h
  cases q : f1 ρ with
  | bad => rw [q] at h; exact h
  | exc c p => rw [q] at h; exact h
  | ok x =>
    rw [q, R.bind_ok] at h
    refine fun v H1 M1 r1 S1 st1 => ?_
    cases q0 : res x.2 x.1 with
    | none => rw [q0] at h; exact h.elim
    | some d0 =>
      rw [q0] at h
      cases d0 with
      | lst ds0 =>
        refine ⟨(S1.res r1 q0).tyl, F, M1, x.2, S1, ?_⟩
        have h : (match ((f2 x.2).bind fun y => (ofO ((res y.2 x.1).bind fun a => (res y.2 y.1).bind fun b => g a b)).bind fun d => R.ok (d, y.2)) with
          | .bad => False
          | .exc c p => Wi F c p
          | .ok (.inl d, ρ') => ∀ v H' M', Rep K H' M' v d → SR K τ F H' M' σ ρ' → Step H M H' M' → Q v H'
          | .ok (.inr ds, ρ') => ∀ p H', NewL K τ F σ H M ρ' ds p H' → Q (.ref p) H') := h
        cases q2 : f2 x.2 with
        | bad => rw [q2] at h; exact h
        | exc c p => rw [q2] at h; exact h
        | ok y =>
          rw [q2, R.bind_ok] at h
          refine fun u H2 M2 r2 S2 st2 => hr _ _ _ _ ?_
          cases q3 : res y.2 x.1 with
          | none => rw [q3] at h; exact h.elim
          | some a =>
            rw [q3, Option.bind_some] at h
            cases q4 : res y.2 y.1 with
            | none => rw [q4] at h; exact h.elim
            | some b =>
              rw [q4, Option.bind_some] at h
              cases q5 : g a b with
              | none => rw [q5] at h; exact h.elim
              | some d =>
                rw [q5] at h
                exact ⟨M2, a, b, d, S2.dom, S2.res (r1.to st2) q3, S2.res r2 q4, q5, fin_res S2 (st1.trans st2) h⟩
      | _ => exact h.elim
end
theorem shaped_of {d : D} (hl : (toPy d).canLay0 = true) (h : shp d = true) : SeqAt.shaped (toPy d) = true := by
  unfold SeqAt.shaped
  rw [Bool.and_eq_true]
  refine ⟨hl, ?_⟩
  rw [dep_py]
  have := of_decide_eq_true h
  exact decide_eq_true (by omega)
theorem m_index {X : Cx} (hu : X.A.units + 65 < cLine) : ∀ x y H Q, rG2 X.K idxG x y H Q → rIndexD X.K x [y] H Q := by
  intro x y H Q ⟨M, a, b, r, dom, ra, rb, e, q⟩
  unfold idxG at e
  split at e
  · rename_i ds
    by_cases hs : shp (.lst ds) = true ∧ shp b = true
    · rw [if_pos hs] at e
      cases e1 : idxL ds b with
      | none => rw [e1] at e; cases e
      | some j =>
        rw [e1] at e; cases e
        obtain ⟨p, vs, rfl, h2, r2⟩ := ra.lst
        unfold idxL at e1
        obtain ⟨hj, hp, hno⟩ := List.findIdx?_eq_some_iff_getElem.mp e1
        refine ⟨p, y, toPy b, ds.map toPy, j, toPy ds[j], rfl, rfl, ?_, rb.dp, ?_, ?_, by rw [List.getElem?_map, List.getElem?_eq_getElem hj]; rfl, hp, fun m z' hm hz => ?_, q _ H ⟨New.refl, .int _⟩⟩
        · have := ra.dp; rw [toPy, toPyL_map] at this; exact this
        · have := shaped_of ra.lay hs.1; rw [toPy, toPyL_map] at this; exact this
        · exact shaped_of rb.lay hs.2
        · rw [List.getElem?_map, List.getElem?_eq_getElem (Nat.lt_trans hm hj)] at hz
          cases hz
          have := hno m hm
          simpa [eqv] using this
    · rw [if_neg hs] at e; cases e
  · cases e
theorem m_count {X : Cx} : ∀ x y H Q, rG2 X.K cntG x y H Q → rCntI X.K x [y] H Q := by
  intro x y H Q ⟨M, a, b, r, dom, ra, rb, e, q⟩
  unfold cntG at e
  split at e
  · rename_i ds k
    cases e1 : intsOf ds with
    | none => rw [e1] at e; cases e
    | some ns =>
      rw [e1] at e; cases e
      obtain ⟨p, vs, rfl, h2, r2⟩ := ra.lst
      rw [intsOf_eq e1] at r2
      have ev := r2.ints
      subst ev
      exact ⟨p, ns, k, rfl, by rw [rb.int], SqL.of h2, q _ H ⟨New.refl, .int _⟩⟩
  · cases e
end MP

namespace MP
open PySem PySem.Spec PyProof.Rows L2

/-! ### comprehensions of two clauses -/
def lcL2 (T T1 : List Nat) (g : Tg) (tt : Et) (it1 : Ei) (g1 : Tg) (tt1 : Et) (elt : Ex) : List D → Store → R (List D × Store)
  | [], ρ => .ok ([], ρ)
  | d :: ds, ρ => (g d ρ).bind fun ρ1 => (tt ρ1).bind fun t => if t.1 = true then
      (it1 t.2).bind fun x => (lcL T1 g1 tt1 elt x.1 (wipeS x.2 T1)).bind fun y => (lcL2 T T1 g tt it1 g1 tt1 elt ds (wipeS y.2 T)).bind fun z => .ok (y.1 ++ z.1, z.2)
    else lcL2 T T1 g tt it1 g1 tt1 elt ds (wipeS t.2 T)
def lcE2 (T T1 : List Nat) (it : Ei) (g : Tg) (tt : Et) (it1 : Ei) (g1 : Tg) (tt1 : Et) (elt : Ex) : Ef := fun ρ => (it ρ).bind fun x =>
  if ownOk x.2 T = true then (noX (lcL2 T T1 g tt it1 g1 tt1 elt x.1 (wipeS x.2 T))).bind fun y => if y.1.length ≤ 16777216 then .ok (y.1, back x.2 y.2 T) else .bad else .bad
section
variable {K : PySem.W.Frag} {τ : LTab} {Wi : WiT} {F : Fr} {H H' : Hp} {M M' : Addr → Prop} {σ : L2.St} {ρ : Store} {ds : List D} {T T1 : List Nat}
theorem wipe_wipe (h : ∀ i ∈ T1, i ∈ T) : L2.wipe (L2.wipe σ T1) T = L2.wipe σ T := by
  apply List.ext_getElem?
  intro j
  by_cases hj : j ∈ T
  · by_cases hb : j < σ.length
    · rw [wipe_in hj (by rw [wipe_len]; exact hb), wipe_in hj hb]
    · rw [List.getElem?_eq_none (by rw [wipe_len, wipe_len]; omega), List.getElem?_eq_none (by rw [wipe_len]; omega)]
  · rw [wipe_out hj, wipe_out hj, wipe_out fun z => hj (h j z)]
/-- the made list is given out -/
theorem lc_close {H1 H3 : Hp} {M1 M3 : Addr → Prop} {ρ1 ρ3 : Store} {acc : List V} {out : List D} {Dd : Addr} (S1 : SR K τ F H1 M1 σ ρ1) (hT : ownOk ρ1 T = true) (S3 : SR K τ F H3 M3 (L2.wipe σ T) ρ3) (m3 : M3 Dd) (hacc : H3 Dd = some (.lst acc)) (racc : RepL K H3 M3 acc out)
    (no3 : ∀ j, ¬ OwnAt H3 (L2.wipe σ T) ρ3 j Dd) (n2 : ¬ F.M0 Dd) (st3 : Step H1 M1 H3 M3) : NewL K τ F σ H1 M1 (back ρ1 ρ3 T) out Dd H3 := by
  have st0 : Step H3 M3 (fun b => if b = Dd then none else H3 b) (fun b => M3 b ∧ b ≠ Dd) := fun a o f => by
    have ha : a ≠ Dd := by
      intro e
      rw [e] at f
      have q := f.1
      rw [hacc] at q
      have q' := Option.some.inj q
      subst q'
      exact f.2.2 True.intro m3
    exact ⟨by show (if a = Dd then none else H3 a) = some o; rw [if_neg ha]; exact f.1, f.2.1, fun m z => f.2.2 m z.1⟩
  have at_ : ∀ a, a ≠ Dd → (fun b => if b = Dd then none else H3 b) a = H3 a := fun a ha => if_neg ha
  have sl := fun j => S3.slSame (M' := fun b => M3 b ∧ b ≠ Dd) st0 (fun b q => ⟨S3.sub b q, fun e => n2 (e ▸ q)⟩) j fun b q => ⟨at_ b fun e => no3 j (e ▸ q), .inl ⟨S3.ownM q, fun e => no3 j (e ▸ q)⟩⟩
  have hl3 : ρ3.length = σ.length := S3.len.trans wipe_len
  have hl1 : ρ1.length = σ.length := S1.len
  refine ⟨_, _, acc, ⟨S3.io, fun a q => ⟨S3.sub a q, fun e => n2 (e ▸ q)⟩, fun a q => by show (if a = Dd then none else H3 a) ≠ none; rw [if_neg q.2]; exact S3.dom a q.1, S3.keep.trans st0, fun a h1 h2 => (at_ a (fun e => n2 (e ▸ h1))).trans (S3.rest a h1 h2), by rw [back_len]; exact hl3, fun j => ?_, fun j k a hj hk => ?_, tabs_del S3.tab hacc⟩, if_pos rfl, fun a o e => ?_, hacc, racc.to st0, st3.trans st0⟩
  · by_cases hj : j ∈ T
    · by_cases hb : j < ρ3.length
      · rw [back_in hj hb]
        have s1 := S1.sl j
        have hb1 : j < ρ1.length := by omega
        have eg : ρ1.getD j .no = ρ1[j] := by rw [List.getD_eq_getElem?_getD, List.getElem?_eq_getElem hb1]; rfl
        rw [List.getElem?_eq_getElem hb1] at s1
        rw [eg]
        have no := List.all_eq_true.mp hT j hj
        rw [List.getElem?_eq_getElem hb1] at no
        generalize hx : σ[j]? = sx at s1 ⊢
        generalize hy : ρ1[j] = sy at s1 no ⊢
        cases s1 with
        | no => exact .no
        | va r => exact .va (r.to (st3.trans st0))
        | sc r => exact .sc (r.to (st3.trans st0))
        | fn h => exact .fn h
        | ow _ _ _ => exact absurd (show false = true from no) (by decide)
        | dc _ _ _ => exact absurd (show false = true from no) (by decide)
        | ne _ => exact absurd (show false = true from no) (by decide)
        | bo _ _ _ => exact absurd (show false = true from no) (by decide)
      · rw [List.getElem?_eq_none (l := back ρ1 ρ3 T) (by rw [back_len]; omega)]; exact .nil
    · rw [back_out hj]
      have s3 := (sl j).1
      rw [wipe_out hj] at s3
      exact s3
  · have bk : ∀ {j : Nat}, OwnAt (fun b => if b = Dd then none else H3 b) σ (back ρ1 ρ3 T) j a → OwnAt H3 (L2.wipe σ T) ρ3 j a := fun {j} ⟨b, x, h1, h2, h3⟩ => by
      by_cases hj : j ∈ T
      · by_cases hb : j < ρ3.length
        · rw [back_in hj hb] at h2
          have hb1 : j < ρ1.length := by omega
          have eg : ρ1.getD j .no = ρ1[j] := by rw [List.getD_eq_getElem?_getD, List.getElem?_eq_getElem hb1]; rfl
          have no := List.all_eq_true.mp hT j hj
          rw [List.getElem?_eq_getElem hb1] at no
          rw [eg] at h2
          have ex : ρ1[j] = x := Option.some.inj h2
          rw [ex] at no
          have no' : (!x.own) = true := no
          rw [Sl.owns_own h3] at no'
          cases no'
        · rw [List.getElem?_eq_none (by rw [back_len]; omega)] at h2; cases h2
      · rw [back_out hj] at h2
        exact (sl j).2 a ⟨b, x, by rw [wipe_out hj]; exact h1, h2, h3⟩
    exact S3.apart j k a (bk hj) (bk hk)
  · have e : (if a = Dd then none else H3 a) = some o := e
    by_cases ha : a = Dd
    · rw [if_pos ha] at e; cases e
    · rw [if_neg ha] at e; exact e
/-- the state of a comprehension's making: the list's place, what it holds -/
structure LcS (K : PySem.W.Frag) (τ : LTab) (F : Fr) (H1 : Hp) (M1 : Addr → Prop) (Dd : Addr) (σ : L2.St) (H : Hp) (ρ : Store) (out : List D) : Prop where
  ex : ∃ M acc, SR K τ F H M σ ρ ∧ M Dd ∧ H Dd = some (.lst acc) ∧ RepL K H M acc out ∧ (∀ j, ¬ OwnAt H σ ρ j Dd) ∧ Step H1 M1 H M
theorem t_lcE2 (hT1 : ∀ i ∈ T1, i ∈ T) {it it1 : Ei} {g g1 : Tg} {tt tt1 : Et} {elt : Ex} {Q : VK} (h : tOfF K τ Wi (lcE2 T T1 it g tt it1 g1 tt1 elt) σ H Q) :
    tLc2 (tOfI K τ Wi it) (tOfG K τ Wi0 T g) (tOfT K τ Wi0 tt) (tOfI K τ Wi0 it1) (tOfG K τ Wi0 T1 g1) (tOfT K τ Wi0 tt1) (tOf K τ Wi0 elt) T T1 σ H Q := by
  obtain ⟨F, M, ρ, S, h⟩ := h
  refine ⟨F, M, ρ, S, ?_⟩
  unfold lcE2 at h
  cases q : it ρ with
  | bad => rw [q] at h; exact h
  | exc c p => rw [q] at h; exact h
  | ok x =>
    obtain ⟨ds, ρ1⟩ := x
    rw [q, R.bind_ok] at h
    intro J H1 M1 hJ S1 st1 Dd hD
    by_cases hT : ownOk ρ1 T = true
    · rw [if_pos hT] at h
      cases qL : lcL2 T T1 g tt it1 g1 tt1 elt ds (wipeS ρ1 T) with
      | bad => rw [qL] at h; exact h.elim
      | exc c p => rw [qL] at h; exact h.elim
      | ok y =>
        obtain ⟨total, ρf⟩ := y
        rw [qL, noX_ok, R.bind_ok] at h
        by_cases hlen : total.length ≤ 16777216
        · have h : ∀ p H', NewL K τ F σ H M (back ρ1 ρf T) total p H' → Q (.ref p) H' := by
            have h' := h
            rw [if_pos hlen] at h'
            exact h'
          have nw0 : NewL K τ F σ H1 M1 ρ1 [] Dd (upd H1 Dd (.lst [])) := ⟨H1, M1, [], S1, hD, New.upd hD, upd_same, .nil, Step.refl⟩
          obtain ⟨M2, m2, n2, _, S2, st2, no2⟩ := nw0.own
          obtain ⟨S2w, b2⟩ := S2.wipe T
          refine ⟨fun i m H2 => ∃ ρ2 out rest, LcS K τ F H1 M1 Dd (L2.wipe σ T) H2 ρ2 out ∧ i ≤ ds.length ∧ m = ds.length - i ∧ lcL2 T T1 g tt it1 g1 tt1 elt (ds.drop i) ρ2 = .ok (rest, ρf) ∧ out ++ rest = total,
            ⟨ds.length, wipeS ρ1 T, [], total, ⟨M2, [], S2w, m2, upd_same, .nil, fun j z => no2 j (b2 j _ z), st2⟩, Nat.zero_le _, by simp, by simpa using qL, rfl⟩, ?_⟩
          rintro i m H3 ⟨ρ3, out, rest, ⟨M3, acc, S3, m3, hacc, racc, no3, st3⟩, hi, rfl, hL, ht⟩
          obtain ⟨hgo, hst⟩ := hJ.2 H3 M3 st3 S3.dom
          by_cases hlt : i < ds.length
          · obtain ⟨d, hd⟩ : ∃ d, ds[i]? = some d := ⟨ds[i], List.getElem?_eq_getElem hlt⟩
            obtain ⟨go, yl⟩ := hgo i d hd
            have ed : ds.drop i = d :: ds.drop (i + 1) := by
              rw [List.drop_eq_getElem_cons hlt]
              have := List.getElem?_eq_getElem hlt
              rw [hd] at this
              rw [Option.some.inj this]
            rw [ed] at hL
            have hL : ((g d ρ3).bind fun ρ1 => (tt ρ1).bind fun t => if t.1 = true then
                (it1 t.2).bind fun x => (lcL T1 g1 tt1 elt x.1 (wipeS x.2 T1)).bind fun y => (lcL2 T T1 g tt it1 g1 tt1 elt (ds.drop (i + 1)) (wipeS y.2 T)).bind fun z => .ok (y.1 ++ z.1, z.2)
              else lcL2 T T1 g tt it1 g1 tt1 elt (ds.drop (i + 1)) (wipeS t.2 T)) = .ok (rest, ρf) := hL
            refine .inr ⟨go, fun H' => ∃ ρ2 out rest, LcS K τ F H1 M1 Dd (L2.wipe σ T) H' ρ2 out ∧ i + 1 ≤ ds.length ∧ lcL2 T T1 g tt it1 g1 tt1 elt (ds.drop (i + 1)) ρ2 = .ok (rest, ρf) ∧ out ++ rest = total,
              fun H' ⟨a2, a4, a5, b1, b7, b9, b10⟩ => ⟨ds.length - (i + 1), by omega, a2, a4, a5, b1, b7, rfl, b9, b10⟩, fun x H4 hy => ?_⟩
            obtain ⟨n4, r4⟩ := yl x H4 hy
            have S4 := S3.new n4
            have st4 : Step H3 M3 H4 M3 := n4.step
            have e4 : H4 Dd = some (.lst acc) := n4 _ _ hacc
            refine ⟨_, M3, ρ3, d, S4.inner m3 fun j z => no3 j (S3.ownNew n4 z), r4, ?_⟩
            cases q1 : g d ρ3 with
            | bad => rw [q1] at hL; cases hL
            | exc c p => rw [q1] at hL; cases hL
            | ok ρ4 =>
              rw [q1, R.bind_ok] at hL
              intro σ5 H5 M5 k5 S5 st5
              have hw : L2.wipe σ5 T = L2.wipe σ T := k5.wipe
              refine ⟨hw, _, M5, ρ4, S5, ?_⟩
              cases q2 : tt ρ4 with
              | bad => rw [q2] at hL; cases hL
              | exc c p => rw [q2] at hL; cases hL
              | ok t =>
                obtain ⟨b, ρ5⟩ := t
                rw [q2, R.bind_ok] at hL
                intro H6 M6 S6 st6
                cases b with
                | false =>
                  rw [if_neg Bool.false_ne_true]
                  have hL : lcL2 T T1 g tt it1 g1 tt1 elt (ds.drop (i + 1)) (wipeS ρ5 T) = .ok (rest, ρf) := hL
                  obtain ⟨S7, m7, e7, no7⟩ := S4.outer n2 S6
                  obtain ⟨S8, b8⟩ := S7.wipe T
                  rw [hw] at S8 b8
                  have stt := (st4.trans st5).trans st6
                  exact ⟨wipeS ρ5 T, out, rest, ⟨M6, acc, S8, m7, e7.trans e4, racc.to stt, fun j z => no7 j (b8 j _ z), st3.trans stt⟩, hlt, hL, ht⟩
                | true =>
                  rw [if_pos rfl]
                  have hL : ((it1 ρ5).bind fun x => (lcL T1 g1 tt1 elt x.1 (wipeS x.2 T1)).bind fun y => (lcL2 T T1 g tt it1 g1 tt1 elt (ds.drop (i + 1)) (wipeS y.2 T)).bind fun z => R.ok (y.1 ++ z.1, z.2)) = .ok (rest, ρf) := hL
                  refine ⟨_, M6, ρ5, S6, ?_⟩
                  cases q3 : it1 ρ5 with
                  | bad => rw [q3] at hL; cases hL
                  | exc c p => rw [q3] at hL; cases hL
                  | ok xx =>
                    obtain ⟨ds1, ρ6⟩ := xx
                    rw [q3, R.bind_ok] at hL
                    intro J1 H7 M7 hJ1 S7 st7
                    have hL : ((lcL T1 g1 tt1 elt ds1 (wipeS ρ6 T1)).bind fun y => (lcL2 T T1 g tt it1 g1 tt1 elt (ds.drop (i + 1)) (wipeS y.2 T)).bind fun z => R.ok (y.1 ++ z.1, z.2)) = .ok (rest, ρf) := hL
                    cases q4 : lcL T1 g1 tt1 elt ds1 (wipeS ρ6 T1) with
                    | bad => rw [q4] at hL; cases hL
                    | exc c p => rw [q4] at hL; cases hL
                    | ok yy =>
                      obtain ⟨tot1, ρ7⟩ := yy
                      rw [q4, R.bind_ok] at hL
                      have hL : ((lcL2 T T1 g tt it1 g1 tt1 elt (ds.drop (i + 1)) (wipeS ρ7 T)).bind fun z => R.ok (tot1 ++ z.1, z.2)) = .ok (rest, ρf) := hL
                      cases q5 : lcL2 T T1 g tt it1 g1 tt1 elt (ds.drop (i + 1)) (wipeS ρ7 T) with
                      | bad => rw [q5] at hL; cases hL
                      | exc c p => rw [q5] at hL; cases hL
                      | ok zz =>
                        obtain ⟨rest', ρf'⟩ := zz
                        rw [q5] at hL
                        have e1 : tot1 ++ rest' = rest ∧ ρf' = ρf := by
                          have := R.ok.inj hL
                          exact ⟨congrArg Prod.fst this, congrArg Prod.snd this⟩
                        obtain ⟨S8, m8, e8, no8⟩ := S4.outer n2 S7
                        have stA := ((st4.trans st5).trans st6).trans st7
                        obtain ⟨S9, b9⟩ := S8.wipe T1
                        refine ⟨fun j k HH => ∃ ρ2 out1 rest1, LcS K τ F H7 M7 Dd (L2.wipe σ5 T1) HH ρ2 (out ++ out1) ∧ j ≤ ds1.length ∧ k = ds1.length - j ∧ lcL T1 g1 tt1 elt (ds1.drop j) ρ2 = .ok (rest1, ρ7) ∧ out1 ++ rest1 = tot1,
                          ⟨ds1.length, wipeS ρ6 T1, [], tot1, ⟨M7, acc, S9, m8, e8.trans e4, by rw [List.append_nil]; exact racc.to stA, fun j z => no8 j (b9 j _ z), Step.refl⟩, Nat.zero_le _, by simp, by simpa using q4, rfl⟩, ?_⟩
                        rintro j k HB ⟨ρB, outB, restB, ⟨MB, accB, SB, mB, haccB, raccB, noB, stB⟩, hj, rfl, hLB, htB⟩
                        obtain ⟨hgo1, hst1⟩ := hJ1.2 HB MB stB SB.dom
                        by_cases hlt1 : j < ds1.length
                        · obtain ⟨d1, hd1⟩ : ∃ d, ds1[j]? = some d := ⟨ds1[j], List.getElem?_eq_getElem hlt1⟩
                          obtain ⟨go1, yl1⟩ := hgo1 j d1 hd1
                          have ed1 : ds1.drop j = d1 :: ds1.drop (j + 1) := by
                            rw [List.drop_eq_getElem_cons hlt1]
                            have := List.getElem?_eq_getElem hlt1
                            rw [hd1] at this
                            rw [Option.some.inj this]
                          rw [ed1] at hLB
                          have hLB : ((g1 d1 ρB).bind fun ρ1 => (tt1 ρ1).bind fun t => if t.1 = true then
                              (elt t.2).bind fun x => (lcL T1 g1 tt1 elt (ds1.drop (j + 1)) (wipeS x.2 T1)).bind fun y => .ok (x.1 :: y.1, y.2)
                            else lcL T1 g1 tt1 elt (ds1.drop (j + 1)) (wipeS t.2 T1)) = .ok (restB, ρ7) := hLB
                          refine .inr ⟨go1, fun HH => ∃ ρ2 out1 rest1, LcS K τ F H7 M7 Dd (L2.wipe σ5 T1) HH ρ2 (out ++ out1) ∧ j + 1 ≤ ds1.length ∧ lcL T1 g1 tt1 elt (ds1.drop (j + 1)) ρ2 = .ok (rest1, ρ7) ∧ out1 ++ rest1 = tot1,
                            fun H' ⟨a2, a4, a5, b1, b7, b9, b10⟩ => ⟨ds1.length - (j + 1), by omega, a2, a4, a5, b1, b7, rfl, b9, b10⟩, fun x HC hy1 => ?_⟩
                          obtain ⟨nC, rC⟩ := yl1 x HC hy1
                          have SC := SB.new nC
                          have stC : Step HB MB HC MB := nC.step
                          have eC : HC Dd = some (.lst accB) := nC _ _ haccB
                          refine ⟨_, MB, ρB, d1, SC.inner mB fun j z => noB j (SB.ownNew nC z), rC, ?_⟩
                          cases p1 : g1 d1 ρB with
                          | bad => rw [p1] at hLB; cases hLB
                          | exc c p => rw [p1] at hLB; cases hLB
                          | ok ρD =>
                            rw [p1, R.bind_ok] at hLB
                            intro σ8 HD MD kD SD stD
                            have hw1 : L2.wipe σ8 T1 = L2.wipe σ5 T1 := kD.wipe
                            refine ⟨hw1, _, MD, ρD, SD, ?_⟩
                            cases p2 : tt1 ρD with
                            | bad => rw [p2] at hLB; cases hLB
                            | exc c p => rw [p2] at hLB; cases hLB
                            | ok t =>
                              obtain ⟨b, ρE⟩ := t
                              rw [p2, R.bind_ok] at hLB
                              intro HE ME SE stE
                              cases b with
                              | false =>
                                rw [if_neg Bool.false_ne_true]
                                have hLB : lcL T1 g1 tt1 elt (ds1.drop (j + 1)) (wipeS ρE T1) = .ok (restB, ρ7) := hLB
                                obtain ⟨SF, mF, eF, noF⟩ := SC.outer n2 SE
                                obtain ⟨SG, bG⟩ := SF.wipe T1
                                rw [hw1] at SG bG
                                have stt := (stC.trans stD).trans stE
                                exact ⟨wipeS ρE T1, outB, restB, ⟨ME, accB, SG, mF, eF.trans eC, raccB.to stt, fun j z => noF j (bG j _ z), stB.trans stt⟩, hlt1, hLB, htB⟩
                              | true =>
                                rw [if_pos rfl]
                                have hLB : ((elt ρE).bind fun x => (lcL T1 g1 tt1 elt (ds1.drop (j + 1)) (wipeS x.2 T1)).bind fun y => .ok (x.1 :: y.1, y.2)) = .ok (restB, ρ7) := hLB
                                refine ⟨_, ME, ρE, SE, ?_⟩
                                cases p3 : elt ρE with
                                | bad => rw [p3] at hLB; cases hLB
                                | exc c p => rw [p3] at hLB; cases hLB
                                | ok z =>
                                  obtain ⟨dz, ρG⟩ := z
                                  rw [p3, R.bind_ok] at hLB
                                  intro v HF MF rF SF0 stF
                                  have hLB : ((lcL T1 g1 tt1 elt (ds1.drop (j + 1)) (wipeS ρG T1)).bind fun y => R.ok (dz :: y.1, y.2)) = .ok (restB, ρ7) := hLB
                                  cases p4 : lcL T1 g1 tt1 elt (ds1.drop (j + 1)) (wipeS ρG T1) with
                                  | bad => rw [p4] at hLB; cases hLB
                                  | exc c p => rw [p4] at hLB; cases hLB
                                  | ok w =>
                                    obtain ⟨rest1', ρf1'⟩ := w
                                    rw [p4] at hLB
                                    have f1 : dz :: rest1' = restB ∧ ρf1' = ρ7 := by
                                      have := R.ok.inj hLB
                                      exact ⟨congrArg Prod.fst this, congrArg Prod.snd this⟩
                                    obtain ⟨SG, mG, eG, noG⟩ := SC.outer n2 SF0
                                    have eD : HF Dd = some (.lst accB) := eG.trans eC
                                    have hlen2 : accB.length < sizeLine := by
                                      rw [raccB.length, sizeLine_eq]
                                      have h1 := congrArg List.length ht
                                      have h2 := congrArg List.length e1.1
                                      have h3 := congrArg List.length htB
                                      have h4 := congrArg List.length f1.1
                                      simp only [List.length_append, List.length_cons] at h1 h2 h3 h4 ⊢
                                      omega
                                    obtain ⟨SH, stH, bkH⟩ := SG.poke (vs' := accB ++ [v]) mG n2 eD noG
                                    obtain ⟨SI, bI⟩ := SH.wipe T1
                                    rw [hw1] at SI bI
                                    have stt := ((stC.trans stD).trans stE).trans stF
                                    refine ⟨accB, eD, hlen2, wipeS ρG T1, outB ++ [dz], rest1', ⟨MF, accB ++ [v], SI, mG, upd_same, by rw [← List.append_assoc]; exact ((raccB.to stt).append (.cons rF .nil)).to stH, fun j z => noG j (bkH j _ (bI j _ z)), (stB.trans stt).trans stH⟩, hlt1, by rw [p4, f1.2], ?_⟩
                                    rw [List.append_assoc, List.singleton_append, f1.1]; exact htB
                        · have e : j = ds1.length := by omega
                          subst e
                          rw [List.drop_length] at hLB
                          have hLB : R.ok (([] : List D), ρB) = .ok (restB, ρ7) := hLB
                          have f1 : restB = [] ∧ ρB = ρ7 := by
                            have := R.ok.inj hLB
                            exact ⟨(congrArg Prod.fst this).symm, congrArg Prod.snd this⟩
                          obtain ⟨f1, f2⟩ := f1
                          subst f1 f2
                          rw [List.append_nil] at htB
                          subst htB
                          obtain ⟨SC, bC⟩ := SB.wipe T
                          rw [wipe_wipe hT1, hw] at SC bC
                          exact .inl ⟨hst1, wipeS ρB T, out ++ outB, rest', ⟨MB, accB, SC, mB, haccB, raccB, fun j z => noB j (bC j _ z), (st3.trans stA).trans stB⟩, hlt, by rw [q5, e1.2], by rw [List.append_assoc, e1.1]; exact ht⟩
          · have e : i = ds.length := by omega
            subst e
            rw [List.drop_length] at hL
            have hL : R.ok (([] : List D), ρ3) = .ok (rest, ρf) := hL
            have e1 : rest = [] ∧ ρ3 = ρf := by
              have := R.ok.inj hL
              exact ⟨(congrArg Prod.fst this).symm, congrArg Prod.snd this⟩
            obtain ⟨e1, e2⟩ := e1
            subst e1 e2
            rw [List.append_nil] at ht
            subst ht
            obtain ⟨H0, M0, vs, z1, z2, z3, z4, z5, z6⟩ := (lc_close S1 hT S3 m3 hacc racc no3 n2 st3).ex
            exact .inl ⟨hst, h Dd H3 ⟨H0, M0, vs, z1, z2, z3, z4, z5, st1.trans z6⟩⟩
        · rw [if_neg hlen] at h; exact h.elim
    · rw [if_neg hT] at h; exact h.elim
end
end MP

namespace MP
open PySem PySem.Spec PyProof.Rows L2

/-! ### owned things with owned lists in them: frozen -/
/-- how it lies when it is frozen -/
def Shp.fz : Shp → List (List D) → Sl
  | .rows, rs => .va (.lst (rs.map .lst))
  | .dic ks t, rs => .dc (ks.zip (rs.map .lst)) t
  | .prs xs, rs => .va (.lst ((xs.zip rs).map fun p => .tup [p.1, .lst p.2]))
section
variable {K : PySem.W.Frag} {τ : LTab} {Wi : WiT} {F : Fr} {H H' : Hp} {M M' M0 : Addr → Prop} {σ : L2.St} {ρ : Store} {a : Addr} {bs : List Addr} {rows : List (List D)} {sh : Shp}
theorem RowsR.reps (R : RowsR K H M M0 bs rows) (st : Step H M H M') (out : ∀ b ∈ bs, ¬ M' b) : RepL K H M' (bs.map V.ref) (rows.map D.lst) := by
  induction R with
  | nil => exact .nil
  | cons h1 h2 h3 h4 _ ih => exact .cons (.lst ⟨h3, id, fun _ => out _ List.mem_cons_self⟩ (h4.to st)) (ih fun b hb => out b (List.mem_cons_of_mem _ hb))
theorem RowsR.length (R : RowsR K H M M0 bs rows) : bs.length = rows.length := by
  induction R with
  | nil => rfl
  | cons h1 h2 h3 h4 _ ih => rw [List.length_cons, List.length_cons, ih]
theorem PrsR.reps {ts : List V} {xs : List D} (R : PrsR K H M ts xs bs) (st : Step H M H M') : ∀ {rows : List (List D)}, RowsR K H M M0 bs rows → (∀ b ∈ bs, ¬ M' b) → RepL K H M' ts ((xs.zip rows).map fun p => D.tup [p.1, .lst p.2]) := by
  induction R with
  | nil => intro rows h _; cases h; exact .nil
  | cons h1 h2 _ ih =>
    intro rows h out
    cases h with
    | cons g1 g2 g3 g4 g5 =>
      exact .cons (.tup (.inl ⟨h1, id, fun z => z.elim⟩) (.cons (h2.to st) (.cons (.lst ⟨g3, id, fun _ => out _ List.mem_cons_self⟩ (g4.to st)) .nil))) (ih g5 fun b hb => out b (List.mem_cons_of_mem _ hb))
/-- a slot gives up some of its things -/
theorem SR.lessS {i : Nat} {b : Addr} {x x' : Sl} {P : Addr → Prop} (S : SR K τ F H M σ ρ) (hσ : σ[i]? = some (some (.ref b))) (hρ : ρ[i]? = some x) (hP : ∀ a, P a → OwnAt H σ ρ i a) (hn : ∀ a, P a → ¬ F.M0 a)
    (new : SlR K F H (fun a => M a ∧ ¬ P a) (some (some (.ref b))) (some x')) (kids : ∀ c, x'.owns H b c → OwnAt H σ ρ i c) : SR K τ F H (fun a => M a ∧ ¬ P a) σ (ρ.set i x') ∧ Step H M H (fun a => M a ∧ ¬ P a) := by
  have st : Step H M H (fun a => M a ∧ ¬ P a) := Step.less fun b q => q.1
  have hi : i < ρ.length := (List.getElem?_eq_some_iff.mp hρ).1
  refine ⟨⟨S.io, fun c q => ⟨S.sub c q, fun z => hn c z q⟩, fun c q => S.dom c q.1, S.keep.trans st, S.rest, by rw [List.length_set]; exact S.len, fun j => ?_, fun j k c hj hk => ?_, S.tab.less fun c q => q.1⟩, st⟩
  · by_cases hj : j = i
    · subst hj
      rw [List.getElem?_set_self hi, hσ]
      exact new
    · rw [List.getElem?_set_ne (Ne.symm hj)]
      exact (S.slSame (M' := fun a => M a ∧ ¬ P a) st (fun c q => ⟨S.sub c q, fun z => hn c z q⟩) j fun c q => ⟨rfl, .inl ⟨S.ownM q, fun z => hj (S.apart j i c q (hP c z))⟩⟩).1
  · have back : ∀ {j : Nat}, OwnAt H σ (ρ.set i x') j c → OwnAt H σ ρ j c := fun h => by
      rcases h.set1 with ⟨_, h⟩ | ⟨hj, b', e, h⟩
      · exact h
      · rw [hσ] at e
        cases e
        rw [hj]
        exact kids c h
    exact S.apart j k c (back hj) (back hk)
theorem map_fst_zip' {α β : Type} : ∀ {xs : List α} {ys : List β}, xs.length = ys.length → (xs.zip ys).map (·.1) = xs
  | [], [], _ => rfl
  | _ :: _, [], h => by cases h
  | [], _ :: _, h => by cases h
  | x :: xs, y :: ys, h => by rw [List.zip_cons_cons, List.map_cons, map_fst_zip' (by simpa using h)]
theorem map_snd_zip' {α β : Type} : ∀ {xs : List α} {ys : List β}, xs.length = ys.length → (xs.zip ys).map (·.2) = ys
  | [], [], _ => rfl
  | _ :: _, [], h => by cases h
  | [], _ :: _, h => by cases h
  | x :: xs, y :: ys, h => by rw [List.zip_cons_cons, List.map_cons, map_snd_zip' (by simpa using h)]
/-- .. the things in slot i -/
theorem SR.freezeNe {i : Nat} (S : SR K τ F H M σ ρ) (hρ : ρ[i]? = some (.ne sh rows)) : ∃ M', SR K τ F H M' σ (ρ.set i (sh.fz rows)) ∧ Step H M H M' := by
  have s := S.sl i
  rw [hρ] at s
  generalize hσ : σ[i]? = sx at s
  cases s with
  | @ne a _ _ bs N =>
    have own : ∀ c, c = a ∨ c ∈ bs → OwnAt H σ ρ i c := fun c hc => ⟨a, _, hσ, hρ, N.owns.mpr hc⟩
    have hl := N.rows.length
    have nd := List.nodup_cons.mp N.nd
    have out := N.out
    have dic : ∀ ks t, sh = .dic ks t → ∃ M', SR K τ F H M' σ (ρ.set i (sh.fz rows)) ∧ Step H M H M' := fun ks t e => by
      subst e
      have st : Step H M H (fun c => M c ∧ ¬ c ∈ bs) := Step.less fun b q => q.1
      have rp := N.rows.reps st fun b hb z => z.2 hb
      refine ⟨fun c => M c ∧ ¬ c ∈ bs, S.lessS (P := fun c => c ∈ bs) hσ hρ (fun c hc => own c (.inr hc)) (fun c hc => (N.mem c (.inr hc)).2) (.dc ⟨N.m, nd.1⟩ N.n ?_) fun c (q : c = a) => own c (.inl q)⟩
      cases out with
      | @dK kv _ e1 e2 e3 =>
        have hk : ks.length = (rows.map D.lst).length := by
          have := congrArg List.length e3
          rw [List.length_map, List.length_map] at this
          rw [e2, List.length_map, List.length_map, this, hl]
        exact .k e1 (by rw [map_fst_zip' hk, e2]) (by rw [map_snd_zip' hk, e3]; exact rp)
      | @dT kv _ e1 e2 e3 =>
        have hk : ks.length = (rows.map D.lst).length := by
          have := congrArg List.length e3
          rw [List.length_map, List.length_map] at this
          rw [e2, List.length_map, List.length_map, this, hl]
        exact .t e1 (by rw [map_fst_zip' hk, e2]) (by rw [map_snd_zip' hk, e3]; exact rp)
    have st : Step H M H (fun c => M c ∧ ¬ (c = a ∨ c ∈ bs)) := Step.less fun b q => q.1
    have o2 : ∀ b ∈ bs, ¬ (M b ∧ ¬ (b = a ∨ b ∈ bs)) := fun b hb z => z.2 (.inr hb)
    cases sh with
    | dic ks t => exact dic ks t rfl
    | rows =>
      cases out with
      | rows e =>
        exact ⟨_, S.lessS (P := fun c => c = a ∨ c ∈ bs) hσ hρ own (fun c hc => (N.mem c hc).2) (.va (.lst ⟨e, id, fun _ z => z.2 (.inl rfl)⟩ (N.rows.reps st o2))) fun c (q : False) => q.elim⟩
    | prs xs =>
      cases out with
      | prs e q =>
        exact ⟨_, S.lessS (P := fun c => c = a ∨ c ∈ bs) hσ hρ own (fun c hc => (N.mem c hc).2) (.va (.lst ⟨e, id, fun _ z => z.2 (.inl rfl)⟩ (q.reps st N.rows o2))) fun c (q : False) => q.elim⟩
end
end MP

namespace MP
open PySem PySem.Spec PyProof.Rows L2

/-! ### forgetting -/
def clean : List (Nat × Bool) → Store → Store
  | [], ρ => ρ
  | (i, true) :: l, ρ => clean l (ρ.set i .no)
  | (i, false) :: l, ρ => clean l (match ρ[i]? with
    | some (.ow d) => ρ.set i (.va d)
    | some (.ne sh rows) => ρ.set i (sh.fz rows)
    | _ => ρ)
def FR.mapS (f : Store → Store) : FR → FR
  | .next ρ => .next (f ρ)
  | .brk ρ => .brk (f ρ)
  | .cnt ρ => .cnt (f ρ)
  | r => r
def sCl (L : List (Nat × Bool)) (f : Es) : Es := fun ρ => (f ρ).mapS (clean L)
def sPre (L : List (Nat × Bool)) (f : Es) : Es := fun ρ => f (clean L ρ)
def sBad : Es := fun _ => .bad
section
variable {K : PySem.W.Frag} {τ : LTab} {Wi : WiT} {F : Fr} {H H' : Hp} {M M' : Addr → Prop} {σ : L2.St} {ρ : Store} {ds : List D}
theorem SR.drop1 (S : SR K τ F H M σ ρ) (i : Nat) : SR K τ F H M σ (ρ.set i .no) := by
  have back : ∀ {j : Nat} {b : Addr}, OwnAt H σ (ρ.set i .no) j b → OwnAt H σ ρ j b := fun h => by
    rcases h.set1 with ⟨_, h⟩ | ⟨_, _, _, h⟩
    · exact h
    · exact h.elim
  refine ⟨S.io, S.sub, S.dom, S.keep, S.rest, by rw [List.length_set]; exact S.len, fun j => ?_, fun j k b hj hk => S.apart j k b (back hj) (back hk), S.tab⟩
  by_cases hj : j = i
  · subst hj
    by_cases hl : j < ρ.length
    · rw [List.getElem?_set_self hl]; exact .no
    · rw [List.getElem?_eq_none (l := ρ.set j .no) (by rw [List.length_set]; omega)]; exact .nil
  · rw [List.getElem?_set_ne (Ne.symm hj)]; exact S.sl j
theorem SR.clean : ∀ (L : List (Nat × Bool)) {M : Addr → Prop} {ρ : Store}, SR K τ F H M σ ρ → ∃ M', SR K τ F H M' σ (MP.clean L ρ) ∧ Step H M H M'
  | [], M, ρ, S => ⟨M, S, Step.refl⟩
  | (i, true) :: l, M, ρ, S => SR.clean l (S.drop1 i)
  | (i, false) :: l, M, ρ, S => by
    show ∃ M', SR K τ F H M' σ (MP.clean l (match ρ[i]? with
      | some (.ow d) => ρ.set i (.va d)
      | some (.ne sh rows) => ρ.set i (sh.fz rows)
      | _ => ρ)) ∧ Step H M H M'
    split
    · rename_i d e
      have s := S.sl i
      rw [e] at s
      generalize hx : σ[i]? = sx at s
      cases s with
      | ow h1 h2 h3 =>
        cases h3 with
        | lst ha r =>
          obtain ⟨S', _, st⟩ := S.freeze hx e h1 h2 ha r
          obtain ⟨M2, S2, st2⟩ := SR.clean l S'
          exact ⟨M2, S2, st.trans st2⟩
    · rename_i sh rows e
      obtain ⟨M1, S', st⟩ := S.freezeNe e
      obtain ⟨M2, S2, st2⟩ := SR.clean l S'
      exact ⟨M2, S2, st.trans st2⟩
    · exact SR.clean l S
theorem t_sPre {L : List (Nat × Bool)} {f : Es} {E : Ends} (h : tOfS K τ Wi (sPre L f) E σ H) : tOfS K τ Wi f E σ H := by
  obtain ⟨F, M, ρ, S, h⟩ := h
  obtain ⟨M', S', st⟩ := S.clean L
  exact tOfS_go S' st h
theorem t_sCl {L : List (Nat × Bool)} {f : Es} {E : Ends} (h : tOfS K τ Wi (sCl L f) E σ H) : tOfS K τ Wi f E σ H := by
  obtain ⟨F, M, ρ, S, h⟩ := h
  refine ⟨F, M, ρ, S, ?_⟩
  unfold sCl at h
  cases q : f ρ with
  | bad => rw [q] at h; exact h
  | exc c p => rw [q] at h; exact h
  | next y =>
    rw [q] at h
    intro σ' H' M' S' st
    obtain ⟨M2, S2, st2⟩ := S'.clean L
    exact h σ' H' M2 S2 (st.trans st2)
  | brk y =>
    rw [q] at h
    intro σ' H' M' S' st
    obtain ⟨M2, S2, st2⟩ := S'.clean L
    exact h σ' H' M2 S2 (st.trans st2)
  | cnt y =>
    rw [q] at h
    intro σ' H' M' S' st
    obtain ⟨M2, S2, st2⟩ := S'.clean L
    exact h σ' H' M2 S2 (st.trans st2)
  | ret d y => rw [q] at h; exact h
theorem t_sBad {E : Ends} {P : Prop} (h : tOfS K τ Wi sBad E σ H) : P := by
  obtain ⟨F, M, ρ, S, h⟩ := h
  exact h.elim
end
/-! ### the compiler's second part -/
section
variable {c : Cp} {τ : LTab} {E : CE} {X : Cx} {W : WX}
def isSup (e : Expr) : Bool := match e with
  | .Call (.Name id _) [] [] _ => id == "super"
  | _ => false
theorem base_of {e : Expr} {m : Str} {env : Env} {w : Sem Value} (h : (match e with
    | .Name _ _ => true
    | .Subscript _ _ _ => true
    | .Call (.Name _ _) (_ :: _) [] _ => true
    | _ => false) = true) : attributeBase e m env w = w := by
  split at h
  · rfl
  · rfl
  · rfl
  · cases h
def recv (e : Expr) : Bool := match e with
    | .Name _ _ => true
    | .Subscript _ _ _ => true
    | .Call (.Name _ _) (_ :: _) [] _ => true
    | _ => false
/-- o.index(e), o.count(e) -/
def mMeth2 (c : Cp) (E : CE) (o : Expr) (m : Str) (l1 l2 : Nat) (es : List Expr) : Option Em := match es with
  | [e] => if (l1 == l2) = true ∧ recv o = true ∧ isStar e = false then
      if m = "index" then (mO c E o).bind fun f => (mO c E e).map fun g => mthM idxG f g
      else if m = "count" then (mO c E o).bind fun f => (mO c E e).map fun g => mthM cntG f g else none
    else none
  | _ => none
theorem mMeth2_ok (ok : CpOk c) (g : Good τ E X W) {o : Expr} {m : Str} {es : List Expr} {f : Em} {ap pos : Pos} (h : mMeth2 c E o m ap.endLine pos.line es = some f) : PE X (.Call (.Attribute o m ap) es [] pos) (tOfM X.K τ (WiOf X.mg X.K τ W) f) := by
  unfold mMeth2 at h
  split at h
  · rename_i e
    by_cases hc : (ap.endLine == pos.line) = true ∧ recv o = true ∧ isStar e = false
    · rw [if_pos hc] at h
      obtain ⟨hl, hr, hs⟩ := hc
      have hu : X.A.units + 65 < cLine := by have := g.un; omega
      by_cases h1 : m = "index"
      · rw [if_pos h1] at h; subst h1
        cases q1 : mO c E o with
        | none => rw [q1] at h; cases h
        | some f1 =>
          rw [q1, Option.bind_some] at h
          cases q2 : mO c E e with
          | none => rw [q2] at h; cases h
          | some f2 =>
            rw [q2] at h; cases h
            exact pe_imp (pe_bm F.plainAttrs_list F.slot_list_index rfl (mt_indexD hu) (mO_ok ok g q1) (pa_cons (mO_ok ok g q2) pa_nil (star_of hs)) (base_of hr) (by rw [star_of hs]; rfl) hl (star_of hs) rfl) fun σ H Q q => t_mthM (m_index hu) q
      · rw [if_neg h1] at h
        by_cases h2 : m = "count"
        · rw [if_pos h2] at h; subst h2
          cases q1 : mO c E o with
          | none => rw [q1] at h; cases h
          | some f1 =>
            rw [q1, Option.bind_some] at h
            cases q2 : mO c E e with
            | none => rw [q2] at h; cases h
            | some f2 =>
              rw [q2] at h; cases h
              exact pe_imp (pe_bm F.plainAttrs_list F.slot_list_count rfl mt_lcount (mO_ok ok g q1) (pa_cons (mO_ok ok g q2) pa_nil (star_of hs)) (base_of hr) (by rw [star_of hs]; rfl) hl (star_of hs) rfl) fun σ H Q q => t_mthM m_count q
        · rw [if_neg h2] at h; cases h
    · rw [if_neg hc] at h; cases h
  · cases h
/-- a range's items -/
def mRg (c : Cp) (E : CE) : Expr → Option Ei
  | .Call (.Name x p) es [] pos => if x = "range" ∧ isB E x = true then (match es with
      | [a] => if isStar a = true then none else (mO c E a).map fun f => itR ints1 (aCons f xNil)
      | [a, b] => if isStar a = true ∨ isStar b = true then none else (mO c E a).bind fun f => (mO c E b).map fun g => itR ints2 (aCons f (aCons g xNil))
      | _ => none) else none
  | _ => none
theorem prg_imp {X : Cx} {e : Expr} {t t' : L2.St → Hp → (Int → Int → Hp → Prop) → Prop} (h : PRg X e t) (hh : ∀ σ H Q, t' σ H Q → t σ H Q) : PRg X e t' := fun pins s σ H Q I q => h pins s σ H Q I (hh σ H Q q)
theorem mRg_ok (ok : CpOk c) (g : Good τ E X W) {e : Expr} {f : Ei} (h : mRg c E e = some f) : PRg X e (rgK X.K τ (WiOf X.mg X.K τ W) f) ∧ isStar e = false := by
  unfold mRg at h
  split at h
  · rename_i x p es pos
    refine ⟨?_, rfl⟩
    by_cases hx : x = "range" ∧ isB E x = true
    · rw [if_pos hx] at h
      obtain ⟨e1, hb⟩ := hx
      subst e1
      obtain ⟨a1, a2, a3, a4⟩ := g.bi hb
      split at h
      · rename_i a
        by_cases hs : isStar a = true
        · rw [if_pos hs] at h; cases h
        · rw [if_neg hs] at h
          have hs' : isStar a = false := by simpa using hs
          cases q : mO c E a with
          | none => rw [q] at h; cases h
          | some f1 => rw [q] at h; cases h; exact prg_imp (prg_1 a1 a4 (mO_ok ok g q) (star_of hs')) fun σ H Q => rg_ends1
      · rename_i a b
        by_cases hs : isStar a = true ∨ isStar b = true
        · rw [if_pos hs] at h; cases h
        · rw [if_neg hs] at h
          have hs1 : isStar a = false := by cases q : isStar a <;> simp_all
          have hs2 : isStar b = false := by cases q : isStar b <;> simp_all
          cases q : mO c E a with
          | none => rw [q] at h; cases h
          | some f1 =>
            rw [q, Option.bind_some] at h
            cases q2 : mO c E b with
            | none => rw [q2] at h; cases h
            | some f2 => rw [q2] at h; cases h; exact prg_imp (prg_2 a1 a4 (mO_ok ok g q) (mO_ok ok g q2) (star_of hs1) (star_of hs2) (by rw [star_of hs2]; rfl)) fun σ H Q => rg_ends2
      · cases h
    · rw [if_neg hx] at h; cases h
  · cases h
def mConv (c : Cp) (E : CE) (x : Str) (e : Expr) : Option Em := if x = "list" ∧ isB E x = true then (mRg c E e).map fun f => nw f
  else if x = "tuple" ∧ isB E x = true then (mRg c E e).map fun f => pl (tpF f) else none
theorem mConv_ok (ok : CpOk c) (g : Good τ E X W) {x : Str} {e : Expr} {f : Em} {p pos : Pos} (h : mConv c E x e = some f) : PE X (.Call (.Name x p) [e] [] pos) (tOfM X.K τ (WiOf X.mg X.K τ W) f) := by
  unfold mConv at h
  by_cases h1 : x = "list" ∧ isB E x = true
  · rw [if_pos h1] at h
    obtain ⟨e1, hb⟩ := h1
    subst e1
    obtain ⟨a1, a2, a3, a4⟩ := g.bi hb
    cases q : mRg c E e with
    | none => rw [q] at h; cases h
    | some f1 =>
      rw [q] at h; cases h
      obtain ⟨pr, hs⟩ := mRg_ok ok g q
      exact pe_imp (pe_listRg g.calm a1 a4 pr (star_of hs)) fun σ H Q q => t_lstRg q
  · rw [if_neg h1] at h
    by_cases h2 : x = "tuple" ∧ isB E x = true
    · rw [if_pos h2] at h
      obtain ⟨e1, hb⟩ := h2
      subst e1
      obtain ⟨a1, a2, a3, a4⟩ := g.bi hb
      cases q : mRg c E e with
      | none => rw [q] at h; cases h
      | some f1 =>
        rw [q] at h; cases h
        obtain ⟨pr, hs⟩ := mRg_ok ok g q
        exact pe_imp (pe_tupRg g.calm a1 a4 pr (star_of hs)) fun σ H Q q => t_tupRg q
    · rw [if_neg h2] at h; cases h
/-- reversed(..) walked -/
def mRv (c : Cp) (E : CE) (x : Str) (e : Expr) : Option Ei := if x = "reversed" ∧ isB E x = true then match mRg c E e with
  | some f => some (rvI f)
  | none => if isStar e = true then none else (mE c E e).map fun f => rvI (itV f) else none
theorem mRv_ok (ok : CpOk c) (g : Good τ E X W) {x : Str} {e : Expr} {f : Ei} {p pos : Pos} (h : mRv c E x e = some f) : ∀ tg, PI X tg (.Call (.Name x p) [e] [] pos) (tOfI X.K τ (WiOf X.mg X.K τ W) f) := by
  unfold mRv at h
  by_cases h1 : x = "reversed" ∧ isB E x = true
  · rw [if_pos h1] at h
    obtain ⟨e1, hb⟩ := h1
    subst e1
    obtain ⟨a1, a2, a3, a4⟩ := g.bi hb
    intro tg
    split at h
    · rename_i f1 q
      cases h
      obtain ⟨pr, hs⟩ := mRg_ok ok g q
      exact pi_imp (pi_revR a1 a4 pr (star_of hs)) fun σ H R q => t_revRg q
    · by_cases hs : isStar e = true
      · rw [if_pos hs] at h; cases h
      · rw [if_neg hs] at h
        cases q : mE c E e with
        | none => rw [q] at h; cases h
        | some f1 => rw [q] at h; cases h; exact pi_imp (RT.pi_revA a1 a4 (mE_ok ok g q) (star_of (by simpa using hs))) fun σ H R q => t_rv q
  · rw [if_neg h1] at h; cases h
/-- two clauses -/
def mLc2 (c : Cp) (E : CE) (elt : Expr) : List Comprehension → Scope → Option Ef
  | [⟨tg, iter, ifs, 0⟩, ⟨tg1, iter1, ifs1, 0⟩], scope => if blkC E.N (scOf E.nm) scope (ownOf E.N scope.names) = true then
      (c.I E iter).bind fun it => (c.G (E.sub scope) tg).bind fun gg => (c.G (E.sub scope) tg1).bind fun gg1 => if (gg.2.all fun i => decide (i ∈ (ownOf E.N scope.names).map (·.2))) = true ∧ (gg1.2.all fun i => decide (i ∈ (ownOf E.N scope.names).map (·.2))) = true then
        (mIfs c (E.sub scope) ifs).bind fun tt => (c.I (E.sub scope) iter1).bind fun it1 => (mIfs c (E.sub scope) ifs1).bind fun tt1 => (mE c (E.sub scope) elt).map fun el => lcE2 ((ownOf E.N scope.names).map (·.2)) gg1.2 it gg.1 tt it1 gg1.1 tt1 el else none else none
  | _, _ => none
theorem tOfI_wi {Wi Wi' : WiT} {K : PySem.W.Frag} {f : Ei} {σ : L2.St} {H : Hp} {R : It → Hp → Prop} (hw : ∀ F c p, Wi F c p → Wi' F c p) (h : tOfI K τ Wi f σ H R) : tOfI K τ Wi' f σ H R := by
  obtain ⟨F, M, ρ, S, h⟩ := h
  refine ⟨F, M, ρ, S, ?_⟩
  cases q : f ρ with
  | bad => rw [q] at h; exact h
  | exc c p => rw [q] at h; exact hw _ _ _ h
  | ok x => rw [q] at h; exact h
theorem mLc2_ok (ok : CpOk c) (g : Good τ E X W) {elt : Expr} {gs : List Comprehension} {scope : Scope} {f : Ef} (h : mLc2 c E elt gs scope = some f) :
    ∃ (tg iter tg1 iter1 : Expr) (ifs ifs1 : List Expr) (own : List (Str × Nat)) (vs1 : List Nat) (wi wi1 : TI) (tG tG1 : TG) (tt tt1 : TT) (te : TE), gs = [⟨tg, iter, ifs, 0⟩, ⟨tg1, iter1, ifs1, 0⟩] ∧ PI X tg iter wi ∧ BlkOk X.N X.env.scope scope own ∧ (∀ i ∈ vs1, i ∈ own.map (·.2)) ∧
      (∀ (s : Shared) (H : Hp) (C : Addr) (cl : List (Str × Addr)) (fp : List Addr), PG (X.blk s H scope (compEnvC scope cl C X.env) fp) tg tG) ∧
      (∀ (s : Shared) (H : Hp) (C : Addr) (cl : List (Str × Addr)) (fp : List Addr), PTs (X.blk s H scope (compEnvC scope cl C X.env) fp) ifs tt) ∧
      (∀ (s : Shared) (H : Hp) (C : Addr) (cl : List (Str × Addr)) (fp : List Addr), PI (X.blk s H scope (compEnvC scope cl C X.env) fp) tg1 iter1 wi1) ∧
      (∀ (s : Shared) (H : Hp) (C : Addr) (cl : List (Str × Addr)) (fp : List Addr), PG (X.blk s H scope (compEnvC scope cl C X.env) fp) tg1 tG1) ∧
      (∀ (s : Shared) (H : Hp) (C : Addr) (cl : List (Str × Addr)) (fp : List Addr), PTs (X.blk s H scope (compEnvC scope cl C X.env) fp) ifs1 tt1) ∧
      (∀ (s : Shared) (H : Hp) (C : Addr) (cl : List (Str × Addr)) (fp : List Addr), PE (X.blk s H scope (compEnvC scope cl C X.env) fp) elt te) ∧ (∀ env x, foldedSetIterable iter env x = pure x) ∧ (∀ env x, foldedSetIterable iter1 env x = pure x) ∧
      ∀ σ H Q, tOfF X.K τ (WiOf X.mg X.K τ W) f σ H Q → tLc2 wi tG tt wi1 tG1 tt1 te (own.map (·.2)) vs1 σ H Q := by
  unfold mLc2 at h
  split at h
  · rename_i tg iter ifs tg1 iter1 ifs1
    by_cases hb : blkC E.N (scOf E.nm) scope (ownOf E.N scope.names) = true
    · rw [if_pos hb] at h
      cases q1 : c.I E iter with
      | none => rw [q1] at h; cases h
      | some it =>
        rw [q1, Option.bind_some] at h
        cases q2 : c.G (E.sub scope) tg with
        | none => rw [q2] at h; cases h
        | some gg =>
          rw [q2, Option.bind_some] at h
          cases q2b : c.G (E.sub scope) tg1 with
          | none => rw [q2b] at h; cases h
          | some gg1 =>
            rw [q2b, Option.bind_some] at h
            by_cases hT : (gg.2.all fun i => decide (i ∈ (ownOf E.N scope.names).map (·.2))) = true ∧ (gg1.2.all fun i => decide (i ∈ (ownOf E.N scope.names).map (·.2))) = true
            · rw [if_pos hT] at h
              cases q3 : mIfs c (E.sub scope) ifs with
              | none => rw [q3] at h; cases h
              | some tt =>
                rw [q3, Option.bind_some] at h
                cases q5 : c.I (E.sub scope) iter1 with
                | none => rw [q5] at h; cases h
                | some it1 =>
                  rw [q5, Option.bind_some] at h
                  cases q6 : mIfs c (E.sub scope) ifs1 with
                  | none => rw [q6] at h; cases h
                  | some tt1 =>
                    rw [q6, Option.bind_some] at h
                    cases q4 : mE c (E.sub scope) elt with
                    | none => rw [q4] at h; cases h
                    | some el =>
                      rw [q4] at h; cases h
                      have hB := blkOk_by hb
                      have hw : ∀ F c p, Wi0 F c p → (WiOf X.mg X.K τ fun _ _ _ _ => False) F c p := fun _ _ _ z => z.elim
                      obtain ⟨p1, p2⟩ := ok.I g q1
                      have gs := fun s H C cl fp => g.sub (W := W) hB.kind s H C cl fp
                      have i0 : ∀ env x, foldedSetIterable iter1 env x = pure x := (ok.I (gs X.s_0 X.H_0 0 [] []) q5).2
                      have hin : ∀ i ∈ gg1.2, i ∈ (ownOf E.N scope.names).map (·.2) := fun i hi => of_decide_eq_true (List.all_eq_true.mp hT.2 i hi)
                      refine ⟨tg, iter, tg1, iter1, ifs, ifs1, ownOf E.N scope.names, gg1.2, _, tOfI X.K τ Wi0 it1, tOfG X.K τ Wi0 ((ownOf E.N scope.names).map (·.2)) gg.1, tOfG X.K τ Wi0 gg1.2 gg1.1, tOfT X.K τ Wi0 tt, tOfT X.K τ Wi0 tt1, tOf X.K τ Wi0 el, rfl, p1 tg, ⟨hB.kind, hB.uniq, fun p hp => by rw [g.N]; exact hB.ix p hp, fun y hy e => by rw [g.nm]; exact hB.free y hy e, fun y hy e => by rw [g.N]; exact hB.own y hy e⟩, hin, ?_, ?_, ?_, ?_, ?_, ?_, p2, i0, fun σ H Q q => t_lcE2 hin q⟩
                      · exact fun s H C cl fp => pg_imp (ok.G (gs s H C cl fp) q2 _ fun i hi => of_decide_eq_true (List.all_eq_true.mp hT.1 i hi)) fun v σ H Q => tOfG_wi hw
                      · exact fun s H C cl fp => pts_imp (mIfs_ok ok (gs s H C cl fp) q3) fun σ H Q => tOfT_wi hw
                      · exact fun s H C cl fp => pi_imp ((ok.I (gs s H C cl fp) q5).1 tg1) fun σ H Q => tOfI_wi hw
                      · exact fun s H C cl fp => pg_imp (ok.G (gs s H C cl fp) q2b _ fun i hi => hi) fun v σ H Q => tOfG_wi hw
                      · exact fun s H C cl fp => pts_imp (mIfs_ok ok (gs s H C cl fp) q6) fun σ H Q => tOfT_wi hw
                      · exact fun s H C cl fp => pe_imp (mE_ok ok (gs s H C cl fp) q4) fun σ H Q => tOf_wi hw
            · rw [if_neg hT] at h; cases h
    · rw [if_neg hb] at h; cases h
  · cases h
/-- xs[::-1], xs[:0:-1] -/
def mRev (c : Cp) (E : CE) (a b : Expr) : Option Em := match b with
  | .Slice none none (some (.UnaryOp .USub (.Constant (.int 1) _ _) _)) _ => (mO c E a).map fun f => op1M (revG true) f
  | .Slice none (some (.Constant (.int 0) _ _)) (some (.UnaryOp .USub (.Constant (.int 1) _ _) _)) _ => (mO c E a).map fun f => op1M (revG false) f
  | _ => none
theorem mRev_ok (ok : CpOk c) (g : Good τ E X W) {a b : Expr} {f : Em} {pos : Pos} (h : mRev c E a b = some f) : PE X (.Subscript a b pos) (tOfM X.K τ (WiOf X.mg X.K τ W) f) := by
  unfold mRev at h
  split at h
  · cases q : mO c E a with
    | none => rw [q] at h; cases h
    | some f1 => rw [q] at h; cases h; exact pe_imp (pe_rev (b := true) (k0 := 0) (p0 := pos) (mO_ok ok g q)) fun σ H Q => t_op1M
  · rename_i k0 p0 k p1 p2 p3
    cases q : mO c E a with
    | none => rw [q] at h; cases h
    | some f1 => rw [q] at h; cases h; exact pe_imp (pe_rev (b := false) (mO_ok ok g q)) fun σ H Q => t_op1M
  · cases h
def xM (c : Cp) (E : CE) : Expr → Option Em
  | .Compare a ops bs _ => (mCmpL c E a ops bs).map pl
  | .Subscript a b _ => mRev c E a b
  | .Call (.Name x _) [e] [] _ => mConv c E x e
  | .Call (.Attribute o m ap) es [] pos => mMeth2 c E o m ap.endLine pos.line es
  | .ListComp elt gs sc _ => (mLc2 c E elt gs sc).map nw
  | _ => none
theorem xM_ok (ok : CpOk c) (g : Good τ E X W) {e : Expr} {f : Em} (h : xM c E e = some f) : PE X e (tOfM X.K τ (WiOf X.mg X.K τ W) f) := by
  unfold xM at h
  split at h
  · rename_i a ops bs p
    cases q : mCmpL c E a ops bs with
    | none => rw [q] at h; cases h
    | some f1 => rw [q] at h; cases h; exact (mCmpL_ok ok g q).1
  · exact mRev_ok ok g h
  · exact mConv_ok ok g h
  · exact mMeth2_ok ok g h
  · rename_i elt gs sc p
    cases q : mLc2 c E elt gs sc with
    | none => rw [q] at h; cases h
    | some f1 =>
      rw [q] at h; cases h
      obtain ⟨tg, iter, tg1, iter1, ifs, ifs1, own, vs1, wi, wi1, tG, tG1, tt, tt1, te, e, h1, h2, hv, h3, h4, h4b, h4c, h4d, h5, h6, h6b, h7⟩ := mLc2_ok ok g q
      subst e
      exact pe_imp (pe_lc2 g.calm g.nd h1 h2 hv h3 h4 h4b h4c h4d h5 (h6 X.env) h6b) fun σ H Q q => h7 σ H Q (t_nw q)
  · cases h
def xT (c : Cp) (E : CE) : Expr → Option Et
  | .Compare a ops bs _ => (mCmpL c E a ops bs).map tbl
  | _ => none
theorem xT_ok (ok : CpOk c) (g : Good τ E X W) {e : Expr} {f : Et} (h : xT c E e = some f) : PT X e (tOfT X.K τ (WiOf X.mg X.K τ W) f) := by
  unfold xT at h
  split at h
  · rename_i a ops bs p
    cases q : mCmpL c E a ops bs with
    | none => rw [q] at h; cases h
    | some f1 => rw [q] at h; cases h; exact (mCmpL_ok ok g q).2
  · cases h
def xI (c : Cp) (E : CE) : Expr → Option Ei
  | .Call (.Name x _) [e] [] _ => mRv c E x e
  | _ => none
theorem xI_ok (ok : CpOk c) (g : Good τ E X W) {e : Expr} {f : Ei} (h : xI c E e = some f) : (∀ tg, PI X tg e (tOfI X.K τ (WiOf X.mg X.K τ W) f)) ∧ ∀ env x, foldedSetIterable e env x = pure x := by
  unfold xI at h
  split at h
  · exact ⟨mRv_ok ok g h, fun env x => fold_of rfl⟩
  · cases h
def anOf (E : CE) (p : Pos) : List (Nat × Bool) := (E.an.lookup p.line).getD []
def xS (c : Cp) (E : CE) : Stmt → Option Es
  | .Assign [.Name x px] (.ListComp elt gs scope lp) _ => (mLc2 c E elt gs scope).bind fun f => (tgSlot E x).map fun i => sOwn i f
  | .If t a b p => (c.T E t).bind fun ft => (c.L E a).bind fun fa => (c.L E b).map fun fb => match anOf E p with
    | [] => sIf ft fa fb
    | x :: L => sCl (x :: L) (sIf ft fa fb)
  | .For tg iter body [] p => (c.I E iter).bind fun fi => (c.G E tg).bind fun gg => (c.L E body).map fun fb => match anOf E p with
    | [] => sFor fi gg.1 fb
    | x :: L => sPre (x :: L) (sFor fi gg.1 (sCl (x :: L) fb))
  | .While t body [] p => (c.T E t).bind fun ft => (c.L E body).map fun fb => match anOf E p with
    | [] => sWh ft fb
    | x :: L => sPre (x :: L) (sWh ft (sCl (x :: L) fb))
  | .Raise _ _ _ => some sBad
  | _ => none
theorem xS_ok (ok : CpOk c) (g : Good τ E X W) {st : Stmt} {f : Es} (h : xS c E st = some f) : PS X st (tOfS X.K τ (WiOf X.mg X.K τ W) f) := by
  unfold xS at h
  split at h
  · rename_i x px elt gs scope lp pos
    cases q2 : mLc2 c E elt gs scope with
    | none => rw [q2] at h; cases h
    | some f1 =>
      rw [q2, Option.bind_some] at h
      cases q1 : tgSlot E x with
      | none => rw [q1] at h; cases h
      | some i =>
        rw [q1] at h; cases h
        obtain ⟨hi, hL, hf⟩ := g.tg q1
        obtain ⟨tg, iter, tg1, iter1, ifs, ifs1, own, vs1, wi, wi1, tG, tG1, tt, tt1, te, e, h1, h2, hv, h3, h4, h4b, h4c, h4d, h5, h6, h6b, h7⟩ := mLc2_ok ok g q2
        subst e
        have fin : ∀ D σ H, tOfS X.K τ (WiOf X.mg X.K τ W) (sOwn i f1) D σ H → tAsg (tLc2 wi tG tt wi1 tG1 tt1 te (own.map (·.2)) vs1) (gName i) D σ H := fun D σ H q => h7 σ H _ (t_sOwn q)
        by_cases hs : swB E.nm scope.names x px.line lp.line = true
        · obtain ⟨s1, s2, s3⟩ := sw_tt hs
          rw [← g.nm] at s1
          exact ps_imp (ps_setLc2 g.calm g.nd hi s1 (sw_true g.kd s1 s2 s3) h1 h2 hv h3 h4 h4b h4c h4d h5 (h6 X.env) h6b) fin
        · exact ps_imp (ps_set g.nd hi hL (pe_lc2 g.calm g.nd h1 h2 hv h3 h4 h4b h4c h4d h5 (h6 X.env) h6b) (sw_ff g.nm g.kd (by simpa using hs)) hf) fin
  · rename_i t a b p
    cases q1 : c.T E t with
    | none => rw [q1] at h; cases h
    | some f1 =>
      rw [q1, Option.bind_some] at h
      cases q2 : c.L E a with
      | none => rw [q2] at h; cases h
      | some f2 =>
        rw [q2, Option.bind_some] at h
        cases q3 : c.L E b with
        | none => rw [q3] at h; cases h
        | some f3 =>
          rw [q3] at h
          have h := Option.some.inj h
          have base := ps_imp (ps_if (pos := p) (ok.T g q1) (ok.L g q2) (ok.L g q3)) fun D σ H => t_sIf
          dsimp only at h
          split at h
          · subst h; exact base
          · subst h; exact ps_imp base fun D σ H => t_sCl
  · rename_i tg iter body p
    cases q1 : c.I E iter with
    | none => rw [q1] at h; cases h
    | some f1 =>
      rw [q1, Option.bind_some] at h
      cases q2 : c.G E tg with
      | none => rw [q2] at h; cases h
      | some gg =>
        rw [q2, Option.bind_some] at h
        cases q3 : c.L E body with
        | none => rw [q3] at h; cases h
        | some f3 =>
          rw [q3] at h
          have h := Option.some.inj h
          obtain ⟨p1, p2⟩ := ok.I g q1
          dsimp only at h
          split at h
          · subst h; exact ps_imp (ps_for g.po g.calm (p1 tg) (ok.G g q2 gg.2 fun i hi => hi) (ok.L g q3) (p2 X.env)) fun D σ H => t_sFor
          · subst h; exact ps_imp (ps_for g.po g.calm (p1 tg) (ok.G g q2 gg.2 fun i hi => hi) (pss_imp (ok.L g q3) fun D σ H => t_sCl) (p2 X.env)) fun D σ H q => t_sFor (t_sPre q)
  · rename_i t body p
    cases q1 : c.T E t with
    | none => rw [q1] at h; cases h
    | some f1 =>
      rw [q1, Option.bind_some] at h
      cases q3 : c.L E body with
      | none => rw [q3] at h; cases h
      | some f3 =>
        rw [q3] at h
        have h := Option.some.inj h
        dsimp only at h
        split at h
        · subst h; exact ps_imp (ps_while g.po (ok.T g q1) (ok.L g q3)) fun D σ H => t_sWh
        · subst h; exact ps_imp (ps_while g.po (ok.T g q1) (pss_imp (ok.L g q3) fun D σ H => t_sCl)) fun D σ H q => t_sWh (t_sPre q)
  · cases h; exact ⟨fun pins s σ H D I q => t_sBad q⟩
  · cases h
end
end MP

namespace MP
open PySem PySem.Spec PyProof.Rows L2
open LamX (CodeO codeO_ne ExtN lamEnv lamCx TabB)

theorem hcxF {P : Program} {w : World} {outer : List Env} {H : Hp} {s : Shared} {e : Value} {s' : Shared} (h : L2.CX P w outer H s (fun _ _ _ => False) e s') : False := by
  obtain ⟨_, _, _, _, _, _, _, _, _, _, _, _, z⟩ := h
  exact z
/-! ### a lambda of one parameter, called -/
structure LamP (sc scope : Scope) (x : Str) : Prop where
  kind : scope.kind = .function
  co : scope.isCoroutine = false
  gen : scope.isGenerator = false
  cell : ∀ y ∈ scope.names, y.2 ≠ .cell
  own : ∀ y ∈ scope.names, y.2 = .local → y.1 = x
  par : scope.names.lookup x = some .local
  free : ∀ y ∈ scope.names, y.2 = .free → sc.names.lookup y.1 = some .cell ∨ sc.names.lookup y.1 = some .free
def lamPB (nm : List (Str × NameKind)) (scope : Scope) (x : Str) : Bool :=
  decide (scope.kind = .function) && (!scope.isCoroutine && (!scope.isGenerator && (decide (scope.names.lookup x = some .local) && scope.names.all fun y => !decide (y.2 = .cell) && ((!decide (y.2 = .local) || decide (y.1 = x)) && (!decide (y.2 = .free) || decide (nm.lookup y.1 = some .cell) || decide (nm.lookup y.1 = some .free))))))
theorem lamP_by {sc scope : Scope} {x : Str} (h : lamPB sc.names scope x = true) : LamP sc scope x := by
  unfold lamPB at h
  simp only [Bool.and_eq_true, Bool.or_eq_true, Bool.not_eq_true', decide_eq_true_eq, decide_eq_false_iff_not, List.all_eq_true] at h
  obtain ⟨h1, h2, h3, h4, h5⟩ := h
  refine ⟨h1, h2, h3, fun y hy => (h5 y hy).1, fun y hy e => ?_, h4, fun y hy e => ?_⟩
  · exact (h5 y hy).2.1.resolve_left fun z => z e
  · rcases (h5 y hy).2.2 with (z | z) | z
    · exact absurd e z
    · exact .inl z
    · exact .inr z
section
variable {X : Cx} {pins : List (Addr × Obj)} {σ : L2.St} {H : Hp} {s : Shared}
theorem LamP.has {scope : Scope} {x : Str} (L : LamP X.env.scope scope x) (ok : X.Ok) : ∀ y ∈ scope.names, y.2 = .free → ∃ c, X.env.cells.lookup y.1 = some c := fun y hy e => by
  rcases L.free y hy e with k | k
  · exact ok.has _ (.inl k)
  · exact ok.has _ (.inr k)
theorem lamP_start {A : Around} {outer : List Env} {E : XK} {scope : Scope} {f c' : Addr} {h₁ : Heap} {tk : Nat} {x : Str} {i : Nat} {v : V} {u : Value} (I : Inv X pins σ H s) (L : LamP X.env.scope scope x) (nd : X.N.Nodup) (hi : X.N[i]? = some x) (rv : RelV v u) (e0 : Env0 X.prog X.w X.K X.mg X.base A outer s H)
    (hd : A.handled = none) (hns : h₁.Ns s.heap.objs.size fun y => ([(x, u)] : List (Str × Value)).reverse.lookup y) (kp : ∀ b o, s.heap.get? b = some o → h₁.get? b = some o) :
    Inv (lamCx X A outer s H E scope f c') [] (σ.set i (some v)) H { s with heap := h₁, toks := tk } := by
  have hfree := L.has I.ok
  have cm : ∀ {y c}, (cloFrom X.env.cells scope.names []).lookup y = some c → X.env.cells.lookup y = some c := fun {y c} e => by
    rcases cloFrom_mem (PySem.mem_of_lookup e) with hm | ⟨h1, h2⟩
    · cases hm
    · obtain ⟨c1, hc⟩ := hfree _ h1 rfl
      have hc : X.env.cells.lookup y = some c1 := hc
      have e2 : c = c1 := by
        rw [h2, hc] <;> rfl
      rw [e2]
      exact hc
  have look : ∀ {y}, scope.names.lookup y = some .free → ∃ c, (cloFrom X.env.cells scope.names []).lookup y = some c := fun {y} hl => by
    have hy : (y, NameKind.free) ∈ scope.names := PySem.mem_of_lookup hl
    exact mem_lookup (cloFrom_has (cells := X.env.cells) (acc := []) hy)
  have cellK : ∀ {c : Addr} {w : Option Value}, s.heap.IsCell c w → h₁.IsCell c w := fun {c w} ⟨o, ho, hd⟩ => ⟨_, kp _ _ ho, hd⟩
  have noA : ∀ b : Addr, b ∉ (lamCx X A outer s H E scope f c').ex := fun b z => absurd (show b ∈ ([] : List Addr) from z) (by simp)
  have il : i < X.N.length := (List.getElem?_eq_some_iff.mp hi).1
  refine ⟨⟨e0.mod, L.kind, rfl, rfl, Nat.le_refl _, fun y z c e1 e2 => I.ok.inj y z c (cm e1) (cm e2), fun y hy => ?_, fun y c z _ => ?_, fun _ => hd, Around.frames_deeper e0.frames, .inr ⟨rfl, rfl⟩, fun b z => absurd z (noA b), e0.bs, e0.bsz, fun b _ _ => noA b,
      fun b z => absurd z (noA b), e0.funs, e0.frf⟩,
    rfl, e0.bare, Un.kept kp, ⟨_, hns, fun j y w e1 e2 e3 => ?_⟩, fun y c e => ?_, e0.hok.fresh (Nat.le_refl _), fun y c e => ?_, fun q hq => absurd (show q ∈ ([] : List (Addr × Obj)) ++ [] from hq) (by simp), e0.hok.kept kp, by rw [List.length_set]; exact I.len⟩
  · have hy : scope.names.lookup y = some .cell ∨ scope.names.lookup y = some .free := hy
    rcases hy with hy | hy
    · exact absurd rfl (L.cell _ (PySem.mem_of_lookup hy))
    · exact look hy
  · have z : false = true := z
    cases z
  · have e3 : Vis scope y := e3
    have e1 : X.N[j]? = some y := e1
    rcases e3 with k | k | k
    · have ex : y = x := L.own _ (PySem.mem_of_lookup k) rfl
      have ej : j = i := nodup_ix nd e1 (by rw [ex]; exact hi)
      rw [ej, List.getElem?_set_self (by rw [I.len]; exact il)] at e2
      have ew : w = v := (Option.some.inj (Option.some.inj e2)).symm
      rw [ew]
      refine ⟨u, rv, .inl ⟨by rw [ex]; exact L.par, ?_⟩⟩
      rw [ex]
      simp
    · exact absurd rfl (L.cell _ (PySem.mem_of_lookup k))
    · have hne : y ≠ x := fun ex => by
        rw [ex, L.par] at k
        cases k
      have hji : i ≠ j := fun z => by
        rw [← z, hi] at e1
        exact hne (Option.some.inj e1).symm
      rw [List.getElem?_set_ne hji] at e2
      obtain ⟨m, hn, hl⟩ := I.loc
      have hvis : Vis X.env.scope y := (L.free _ (PySem.mem_of_lookup k) rfl).elim (fun k => .inr (.inl k)) (fun k => .inr (.inr k))
      obtain ⟨w', r, q⟩ := hl j y w e1 e2 hvis
      obtain ⟨c2, h2⟩ := look k
      refine ⟨w', r, .inr ⟨.inr k, c2, h2, ?_⟩⟩
      have c1 := cm h2
      rcases q with ⟨k', _⟩ | ⟨_, c3, e', z⟩
      · have k' : X.env.scope.names.lookup y = some .local := k'
        rcases L.free _ (PySem.mem_of_lookup k) rfl with k2 | k2 <;> rw [show X.env.scope.names.lookup y = _ from k2] at k' <;> cases k'
      · rw [c1] at e'
        cases e'
        exact cellK z
  · obtain ⟨w', z⟩ := I.cell y c (cm e)
    exact ⟨w', cellK z⟩
  · exact I.freeC y c (cm e)
/-- f(u), f the lambda at hand, from within the built-ins -/
theorem lamP_call {A : Around} {f c' : Addr} {pm ctv : Value} {params : Arguments} {body : Expr} {scope : Scope} {k i : Nat} {x : Str} {E : Value → Shared → Prop} {tb : TE} {v : V} {u : Value} {Q : VK}
    (I : Inv X pins σ H s) (L : LamP X.env.scope scope x) (nd : X.N.Nodup) (hi : X.N[i]? = some x) (rv : RelV v u) (hf : s.heap.get? f = some (PySem.W.kla_obj "<lambda>" (X.env.qual ++ "<lambda>") params body scope (cloFrom X.env.cells scope.names []) pm c' ctv)) (hc : H c' = some (CodeO c' (X.env.qual ++ "<lambda>")))
    (hbind : ∀ u, bindArgs (PySem.W.kla_fn "<lambda>" (X.env.qual ++ "<lambda>") params body scope (cloFrom X.env.cells scope.names []) pm (.ref c') ctv) ⟨[u], []⟩ = pure [(x, u)])
    (hA : A.frames = some X.stack) (hr : Room (k + 1) A)
    (hbody : ∀ (A : Around) (outer : List Env) (s : Shared) (H : Hp), Room k (A.deeper (lamEnv X scope s.heap.objs.size f c')) → PE (lamCx X A outer s H (fun _ _ _ => False) scope f c') body tb) (h : tb (σ.set i (some v)) H Q) :
    wpAny (model X.prog X.w) A (call (.ref f) [u]) (fun r s' => L2.CE X.stack X.prog X.w H s Q r s') E s := by
  have e0 : Env0 X.prog X.w X.K X.mg X.base A X.stack s H := ⟨hA, I.ok.mod, I.bs, Nat.le_trans I.ok.bsz I.sz, I.stack, I.stkFree, I.hok, I.bare⟩
  obtain ⟨⟨oc, vs, t, hoc, hdc, hvc⟩, _, _⟩ := I.hok c' _ hc
  have rc : codeAny (model X.prog X.w) A (.call (.ref f) ⟨[u], []⟩) (CR (L2.CX X.prog X.w) X.stack X.prog X.w H s Q (fun _ _ _ => False)) s := by
    refine PySem.W.kla_callFunE hr.depth hf rfl L.co L.gen rfl ⟨c', oc, vs, t, rfl, hoc, hdc, hvc⟩ ?_
    rw [hbind]
    refine wpAny_pure (wpAny_newFunctionEnv (fun y hy => L.cell y hy) (fun y hy => by rw [List.mem_singleton.mp hy]; exact L.par) (fun h₁ hns hsb => ⟨I.nolimit.fresh _ hsb, ?_⟩) L.kind)
    show codeAny _ _ (.expr body (lamEnv X scope s.heap.objs.size f c')) _ _
    have kp : ∀ b o, s.heap.get? b = some o → h₁.get? b = some o := fun b o e => hsb.extBut b o (Nat.ne_of_lt (Heap.lt_size e)) (Heap.get?_push_of_some _ e)
    have J := lamP_start (A := A) (outer := X.stack) (E := fun _ _ _ => False) (f := f) (c' := c') (tk := s.toks + ([(x, u)] : List (Str × Value)).length) I L nd hi rv e0 hr.hd hns kp
    refine PySem.W.kla_codeExpr (wpAny_mono ((hbody _ _ s H (hr.deeper _)).run [] _ _ H Q J h) (fun v s' hq => ?_) fun e s' hq => hq)
    obtain ⟨w', H', J', rv', q⟩ := hq
    exact ⟨w', H', J'.os, J'.bare, J'.base, J'.hok, rv', q⟩
  refine wpAny_call (codeAny_mono rc fun r s' hq => ?_)
  cases r with
  | error e => exact (hcxF hq).elim
  | ok fl =>
    cases fl with
    | ret u => exact hq
    | next => exact False.elim hq
    | brk => exact False.elim hq
    | cont => exact False.elim hq
end
end MP

namespace MP
open PySem PySem.Spec PyProof.Rows L2
open LamX (CodeO codeO_ne ExtN lamEnv lamCx TabB)

/-! ### the sort's end over a heap -/
section
variable {prog : Program} {w : World} {A : Around} {E : Value → Shared → Prop} {s : Shared}
theorem k_tail {a kS : Addr} {keys : Array Value} {e e1 : Nat} {st : SortSt} {out : List Value} {P : PySem.Fin → Shared → Prop} (hk : s.heap.get? kS = some (seqObj "list" keys e)) (ha : s.heap.get? a = some (seqObj "list" #[] e1)) (hne : kS ≠ a)
    (hz1 : keys.size ≤ sizeLine) (hz2 : out.length ≤ sizeLine) (hf : failedOf st = none) (ho : (arrOf st).map (·.2) = out.toArray)
    (h : ∀ h' c, (∀ b o, b ≠ a → b ≠ kS → s.heap.get? b = some o → h'.get? b = some o) → h'.get? a = some (seqObj "list" out.toArray c) → P (.done (.ret .none)) { s with heap := h' }) : wpAny (model prog w) A (ksk_tail a false e1 (.ref kS) st) P E s := by
  have u1 := Heap.SameBut.update s.heap kS (Obj.mapSeq fun _ => (#[] : Array Value))
  have a1 : (s.heap.update kS (Obj.mapSeq fun _ => (#[] : Array Value))).get? a = some (seqObj "list" #[] e1) := (u1.2 a (Ne.symm hne)).trans ha
  have u2 := Heap.SameBut.update (s.heap.update kS (Obj.mapSeq fun _ => (#[] : Array Value))) a (Obj.mapSeq fun _ => out.toArray)
  obtain ⟨c, hc⟩ : ∃ c, ((s.heap.update kS (Obj.mapSeq fun _ => (#[] : Array Value))).update a (Obj.mapSeq fun _ => out.toArray)).get? a = some (seqObj "list" out.toArray c) := ⟨_, get?_update_seq a1 fun _ => out.toArray⟩
  unfold ksk_tail
  try dsimp only
  simp only [Bool.false_eq_true, if_false]
  rw [ho]
  refine wpAny_bind (listUpdate_at hk rfl ?_ hz1 (Nat.zero_le _))
  refine wpAny_bind (wpAny_letGo ?_)
  refine wpAny_bind (seqEpoch_at a1 rfl ?_)
  refine wpAny_bind (listUpdate_at a1 rfl ?_ (Nat.zero_le _) (by rw [List.size_toArray]; exact Nat.le_succ_of_le hz2))
  rw [hf]
  simp only [bne_self_eq_false, Bool.false_eq_true, if_false]
  exact wpAny_pure (h _ c (fun b o h1 h2 q => (u2.2 b h1).trans ((u1.2 b h2).trans q)) hc)
theorem k_end {a kS : Addr} {keys : Array Value} {e e1 : Nat} {vs : List Value} {κ : PyProof.Rows.KeyKind} {P : PySem.Fin → Shared → Prop} (hk : s.heap.get? kS = some (seqObj "list" keys e)) (ha : s.heap.get? a = some (seqObj "list" #[] e1)) (hne : kS ≠ a)
    (S : PySem.W.SortsAt prog w A s κ keys.toList) (hsz : keys.size = vs.length) (hZ : vs.length ≤ sizeLine)
    (h : ∀ h' c, (∀ b o, b ≠ a → b ≠ kS → s.heap.get? b = some o → h'.get? b = some o) → h'.get? a = some (seqObj "list" (PySem.W.sortVals κ false keys.toList vs).toArray c) → P (.done (.ret .none)) { s with heap := h' }) :
    wpAny (model prog w) A (ksk_end a false vs.toArray e1 (.ref kS) keys) P E s := by
  obtain ⟨kd, g1, g2⟩ := S.kind
  have hl : keys.toList.length = vs.length := by rw [Array.length_toList]; exact hsz
  have hK : PyProof.Rows.KeysOf κ (keys.zip vs.toArray) := PySem.W.keysOf_zip S.keys
  have hol : (PySem.W.sortVals κ false keys.toList vs).length = vs.length := PySem.W.sortVals_length false hl
  have hss : (keys.zip vs.toArray).size = vs.length := by rw [Array.size_zip, hsz, List.size_toArray, Nat.min_self]
  have fin : ∀ st' : SortSt, (arrOf st').Perm (keys.zip vs.toArray) → PyProof.Rows.SortedToK κ (arrOf st') (keys.zip vs.toArray).size → PyProof.Rows.Stable κ (arrOf st') (keys.zip vs.toArray) → (arrOf st').map (·.2) = (PySem.W.sortVals κ false keys.toList vs).toArray := by
    intro st' p1 p2 p3
    have q := PySem.W.sort_out (rev := false) (keys := keys) (items := vs.toArray) (xs := arrOf st') (κ := κ) hK p1 p2 p3
    have q' := congrArg List.toArray q
    rw [Array.toArray_toList] at q'
    exact q'
  unfold ksk_end
  try dsimp only
  simp only [Bool.false_eq_true, if_false]
  by_cases l2 : vs.toArray.size < 2
  · rw [if_pos l2, if_pos l2]
    refine wpAny_bind (wpAny_pure ?_)
    rw [StateT.run_pure]
    refine wpAny_bind (wpAny_pure ?_)
    try dsimp only
    refine k_tail (st := SortSt.mk' general' (keys.zip vs.toArray) #[] 7 none) hk ha hne (by rw [hsz]; exact hZ) (by rw [hol]; exact hZ) rfl (fin _ (Array.Perm.refl _) ?_ (PyProof.Rows.Stable.refl _)) h
    intro i j hij hj
    rw [hss] at hj
    rw [List.size_toArray] at l2
    have : i = j := by omega
    subst this
    exact PyProof.Rows.KeyOrd.kle_refl _
  · rw [if_neg l2, if_neg l2]
    rw [List.size_toArray] at l2
    refine wpAny_bind (g2 (by omega) _ ?_)
    refine wpAny_bind (wpAny_mono (PyProof.Rows.H.wpS_sortRunsSt (κ := κ) (kd := kd) (a₀ := keys.zip vs.toArray) (st := SortSt.mk' kd (keys.zip vs.toArray) #[] 7 none)
      (Q := fun _ st' => failedOf st' = none ∧ (arrOf st').map (·.2) = (PySem.W.sortVals κ false keys.toList vs).toArray)
      g1 hK ⟨Array.Perm.refl _, rfl, rfl⟩ rfl (PyProof.Rows.Stable.refl _) (by rw [hss]; omega) fun st' a1 a2 a3 a4 => ⟨a2, fin st' a1 a3 a4⟩) ?_ fun _ _ e => e)
    rintro ⟨⟨⟩, st'⟩ s' ⟨rfl, hf, ho⟩
    try dsimp only at ho ⊢
    exact k_tail hk ha hne (by rw [hsz]; exact hZ) (by rw [hol]; exact hZ) hf ho h
end
end MP

namespace MP
open PySem PySem.Spec PyProof.Rows L2
open LamX (CodeO codeO_ne ExtN lamEnv lamCx TabB)

/-! ### a built-in's sort over the calls of a lambda -/
section
variable {X : Cx} {pins : List (Addr × Obj)} {σ : L2.St} {H : Hp} {s : Shared}
/-- a list of ours, not yet tracked, is tracked from now on -/
theorem inv_adopt {a kS : Addr} {ws : List V} {h' : Heap} {t' : Nat} (I : Inv X pins σ H s) (fa : FpOk X pins H a) (fk : FpOk X pins H kS) (k : ∀ b o, b ≠ a → b ≠ kS → s.heap.get? b = some o → h'.get? b = some o)
    (new : ObjOk X.prog X.w (upd H a (.lst ws)) h' a (.lst ws)) : Inv X pins σ (upd H a (.lst ws)) { s with heap := h', toks := t' } := by
  have na : ∀ b u, H b = some u → b ≠ a ∧ b ≠ kS := fun b u e => ⟨fun z => (by rw [z, fa.1] at e; cases e), fun z => (by rw [z, fk.1] at e; cases e)⟩
  have nc : ∀ b, b ∉ [a, kS] → b ≠ a ∧ b ≠ kS := fun b z => by simp only [List.mem_cons, List.not_mem_nil, or_false, not_or] at z; exact z
  have of2 : ∀ b ∈ [a, kS], FpOk X pins H b := fun b hb => by
    rcases List.mem_cons.mp hb with e | e
    · rw [e]; exact fa
    · rw [List.mem_singleton.mp e]; exact fk
  refine I.step (g' := s.gens) (d' := s.drawn) (ch := [a, kS]) (fun b hb => ⟨(of2 b hb).2.2.2.1, (of2 b hb).2.1, (of2 b hb).2.2.2.2.1, (of2 b hb).2.2.2.2.2⟩)
    (fun b o _ _ hc e _ => k b o (nc b hc).1 (nc b hc).2 e) (fun b o _ _ hc e _ => ⟨o.slots, k b o (nc b hc).1 (nc b hc).2 e⟩) (fun b o hc e n => by rw [upd_ne (nc b hc).1]; exact n) (fun b o hc e => ⟨o, k b o (nc b hc).1 (nc b hc).2 e⟩)
    (fun b xs e => by rw [upd_ne (na b _ e).1]; exact e) (fun b o u e => by rw [upd_ne (na b _ e).1]; exact e) (fun b ps e => ⟨#[], by rw [upd_ne (na b _ e).1, e]; simp⟩) (fun m hn => ?_) (fun b u e => ?_) I.bare
  · obtain ⟨ob, es, ep, ho, r⟩ := hn
    exact ⟨ob, es, ep, k _ ob (Ne.symm fa.2.1) (Ne.symm fk.2.1) ho, r⟩
  · by_cases hb : b = a
    · rw [hb, upd_same] at e
      cases e
      rw [hb]
      exact new
    · rw [upd_ne hb] at e
      refine (I.hok b u e).stay (fun d v hd q => ?_) (fun d q => by rw [upd_ne (na d _ q).1]; exact q) fun d xs q => by rw [upd_ne (na d _ q).1]; exact q
      rcases hd with z | z
      · rw [z] at q ⊢
        exact k b v (na b _ e).1 (na b _ e).2 q
      · exact k d v (na d _ z).1 (na d _ z).2 q
theorem fpStay {H' : Hp} {b : Addr} (f : FpOk X pins H b) (h : H' b = none) : FpOk X pins H' b := ⟨h, f.2⟩
theorem fpNofr {b : Addr} (I : Inv X pins σ H s) (f : FpOk X pins H b) : b ∉ frs X.stack := fun z => by
  rcases List.mem_cons.mp (I.stkSub _ z) with e | e
  · exact f.2.1 e
  · exact f.2.2.1 e
end
section
variable {prog : Program} {w : World} {A : Around} {E : Value → Shared → Prop} {s : Shared}
/-- sorted(v, ..): what v yields, collected, sorted as a new list -/
theorem sorted_of_collect {v : Value} {kw : List (Str × Value)} {Q : Value → Shared → Prop} {P : List Value → Prop} (hz : ∀ its, P its → its.length ≤ sizeLine)
    (hcol : ∀ (E' : Value → Shared → Prop) (R : List Value → Shared → Prop), (∀ (h' : Heap) (tk : Nat) its, (∀ b o, s.heap.get? b = some o → h'.get? b = some o) → P its → R its { s with heap := h', toks := tk }) → wpAny (model prog w) A.in1 (collect v) R E' s)
    (ha1 : argsOk "sorted" ⟨[v], kw⟩) (ha2 : ∀ x, argsOk "list.sort" ⟨[.ref x], kw⟩)
    (body : ∀ (E' : Value → Shared → Prop) (h' : Heap) (tk : Nat) its, (∀ b o, s.heap.get? b = some o → h'.get? b = some o) → P its →
      wpAny (model prog w) A.in1.in1 (Builtin.«list.sort» ⟨[.ref h'.objs.size], kw⟩) (fun f s' => f = .done (.ret .none) ∧ Q (.ref h'.objs.size) s') E' { s with heap := h'.push (seqObj "list" its.toArray 0), toks := tk }) :
    wpAny (model prog w) A (call (.builtin "sorted") [v] kw) Q E s := by
  refine call_function_entry_kw kind_sorted plain_sorted entry_sorted ha1 ?_
  unfold Builtin.«sorted»
  refine wpAny_bind (m := checkCount "sorted" 1 1 _) (wpAny_pure ?_)
  refine wpAny_bind (hcol _ _ fun h' tk its hk hp => ?_)
  refine wpAny_bind (wpAny_newList ?_ (hz its hp))
  refine wpAny_bind (wpAny_holding (wpAny_call_entry_kw slot_list_sort ⟨_, Heap.get?_push_size _ rfl, rfl⟩ entry_list_sort ?body (ha2 _)))
  case body =>
    show wpAny (model prog w) A.in1.in1 (Builtin.«list.sort» ⟨[.ref h'.objs.size], kw⟩) _ _ _
    refine wpAny_mono (body _ h' tk its hk hp) (fun f s' hf => ?_) fun _ _ e => e
    obtain ⟨rfl, hq⟩ := hf
    exact ⟨_, rfl, wpAny_pure ⟨_, rfl, hq⟩⟩
end
/-! ### the keys' calls, the sort -/
/-- the items' order by keys -/
def keyOrd {α : Type} (ds : List D) (vs : List α) : List α := ((ds.zip vs).mergeSort fun a b => leS a.1 b.1).map Prod.snd
theorem each_to_map {α β γ : Type} {R : α → γ → Prop} (f : β → γ) : ∀ {as : List α} {bs : List β}, PySem.W.EachIs (fun a b => R a (f b)) as bs → PySem.W.EachIs R as (bs.map f)
  | _, _, .nil => .nil
  | _, _, .cons h t => .cons h (each_to_map f t)
theorem each_zip {R : Value → V → Prop} {T : Value → D → Prop} : ∀ {us : List Value} {vs : List V} {ks : List Value} {ds : List D}, PySem.W.EachIs R us vs → PySem.W.EachIs T ks ds → us.length = ks.length →
    PySem.W.EachIs (fun u (p : D × V) => R u p.2) us (ds.zip vs) ∧ PySem.W.EachIs (fun k (p : D × V) => T k p.1) ks (ds.zip vs)
  | _, _, _, _, .nil, .nil, _ => ⟨.nil, .nil⟩
  | _, _, _, _, .nil, .cons _ _, h => by simp at h
  | _, _, _, _, .cons _ _, .nil, h => by simp at h
  | _, _, _, _, .cons h1 t1, .cons h2 t2, h => by
    obtain ⟨a, b⟩ := each_zip t1 t2 (by simpa using h)
    exact ⟨.cons h1 a, .cons h2 b⟩
theorem vals_each : ∀ {vs : List V} {us : List Value}, Vals vs us → PySem.W.EachIs (fun u v => RelV v u) us vs
  | _, _, .nil => .nil
  | _, _, .cons h t => .cons h (vals_each t)
theorem each_vals {us : List Value} {ps : List (D × V)} (h : PySem.W.EachIs (fun u (p : D × V) => RelV p.2 u) us ps) : Vals (ps.map Prod.snd) us := by
  induction h with
  | nil => exact .nil
  | cons h1 _ ih => exact .cons h1 ih
theorem sort_vals {h : Heap} {ks us : List Value} {vs : List V} {ds : List D} (hk : PySem.W.EachIs (fun u d => ∃ as, Reads h u (toPy d) as) ks ds) (rv : Vals vs us) (hl : us.length = ks.length) (hal : alkL ds = true) :
    Vals (keyOrd ds vs) (PySem.W.sortVals (PySem.W.dataKind h (ds.map toPy)) false ks us) := by
  have ek := PySem.W.each_keys (alkL_iff hal) (each_to_map (R := fun u d => ∃ as, Reads h u d as) toPy hk)
  have ek2 := PySem.W.each_of_map toPy ek
  obtain ⟨z1, z2⟩ := each_zip (vals_each rv) ek2 hl
  have q := PySem.W.sortVals_each (κ := PySem.W.dataKind h (ds.map toPy)) (rev := false) (fun p : D × V => PySem.W.keyToks (toPy p.1)) z1 z2
  have e : (PySem.W.sortLe (PySem.W.dataKind h (ds.map toPy)).toKeyOrd false fun p : D × V => PySem.W.keyToks (toPy p.1)) = fun a b => leS a.1 b.1 := by
    funext a b
    rfl
  rw [e] at q
  exact each_vals q
section
variable {X : Cx} {pins : List (Addr × Obj)} {σ : L2.St} {H : Hp} {s : Shared}
/-- list.sort(key=f) on a new list, f a lambda of one parameter -/
theorem k_sort {A : Around} {f c' a : Addr} {pm ctv : Value} {params : Arguments} {body : Expr} {scope : Scope} {k i : Nat} {x : Str} {tb : TE} {its : List Value} {vs : List V} {Q : VK} {E' : Value → Shared → Prop} {P : Nat → Hp → List V → Prop}
    (I : Inv X pins σ H s) (L : LamP X.env.scope scope x) (nd : X.N.Nodup) (hi : X.N[i]? = some x) (rv : Vals vs its) (hz : its.length ≤ sizeLine)
    (hf : s.heap.get? f = some (PySem.W.kla_obj "<lambda>" (X.env.qual ++ "<lambda>") params body scope (cloFrom X.env.cells scope.names []) pm c' ctv)) (hfn : H f = none) (hff : f ∉ frs X.stack)
    (ha : s.heap.get? a = some (seqObj "list" its.toArray 0)) (fa : FpOk X pins H a) (haf : f ≠ a)
    (hbind : ∀ u, bindArgs (PySem.W.kla_fn "<lambda>" (X.env.qual ++ "<lambda>") params body scope (cloFrom X.env.cells scope.names []) pm (.ref c') ctv) ⟨[u], []⟩ = pure [(x, u)])
    (hA : A.frames = some X.stack) (hr : Room (k + 1) A)
    (hbody : ∀ (A : Around) (outer : List Env) (s : Shared) (H : Hp), Room k (A.deeper (lamEnv X scope s.heap.objs.size f c')) → PE (lamCx X A outer s H (fun _ _ _ => False) scope f c') body tb)
    (hc : ∀ i H ks, P i H ks → H c' = some (CodeO c' (X.env.qual ++ "<lambda>"))) (h0 : P 0 H []) (step : ∀ j H ks v, vs[j]? = some v → P j H ks → tb (σ.set i (some v)) H fun kv H' => P (j + 1) H' (ks ++ [kv]))
    (done : ∀ H ks, P vs.length H ks → H a = none → ∃ M ds, RepL X.K H M ks ds ∧ (alkL ds = true ∧ srtb ds = true ∧ shpL ds = true) ∧ Q (.ref a) (upd H a (.lst (keyOrd ds vs)))) :
    wpAny (model X.prog X.w) A (Builtin.«list.sort» ⟨[.ref a], [(Str.ofString "key", .ref f)]⟩) (fun fn s' => fn = .done (.ret .none) ∧ EP X pins σ Q (.ref a) s') E' s := by
  have hvl : vs.length = its.length := rv.length
  rw [PyProof.Rows.ksk_t1]
  unfold PyProof.Rows.ksk_tree
  refine wpAny_bind (listItems_at ha rfl ?_)
  refine wpAny_bind (listUpdate_at ha rfl ?_ (by rw [List.size_toArray]; exact hz) (Nat.zero_le _))
  obtain ⟨e1, ho1⟩ : ∃ e1, (s.heap.update a (Obj.mapSeq fun _ => #[])).get? a = some (seqObj "list" #[] e1) := ⟨_, get?_update_seq ha (fun _ => #[])⟩
  refine wpAny_bind (seqEpoch_at ho1 rfl ?_)
  refine wpAny_bind (wpAny_newTuple ?_ hz)
  refine wpAny_bind (wpAny_newList ?_ (Nat.zero_le _))
  refine wpAny_holding ?_
  have keep1 : ∀ b o, b ≠ a → s.heap.get? b = some o → (((s.heap.update a (Obj.mapSeq fun _ => #[])).push (seqObj "tuple" its.toArray 0)).push (seqObj "list" #[] 0)).get? b = some o := fun b o hb e =>
    Heap.get?_push_of_some _ (Heap.get?_push_of_some _ ((Heap.get?_update_ne _ _ _ _ hb).trans e))
  have ho6 : (((s.heap.update a (Obj.mapSeq fun _ => #[])).push (seqObj "tuple" its.toArray 0)).push (seqObj "list" #[] 0)).get? a = some (seqObj "list" #[] e1) := Heap.get?_push_of_some _ (Heap.get?_push_of_some _ ho1)
  have hsz : s.heap.objs.size ≤ ((s.heap.update a (Obj.mapSeq fun _ => #[])).push (seqObj "tuple" its.toArray 0)).objs.size := by
    rw [size_push', Heap.size_update]; exact Nat.le_succ _
  have hk0 : (((s.heap.update a (Obj.mapSeq fun _ => #[])).push (seqObj "tuple" its.toArray 0)).push (seqObj "list" #[] 0)).get? ((s.heap.update a (Obj.mapSeq fun _ => #[])).push (seqObj "tuple" its.toArray 0)).objs.size = some (seqObj "list" #[] 0) := Heap.get?_push_size _ rfl
  generalize hkS : ((s.heap.update a (Obj.mapSeq fun _ => #[])).push (seqObj "tuple" its.toArray 0)).objs.size = kS at hk0 hsz
  have fk : FpOk X pins H kS := I.fpOk hsz (I.hok.fresh hsz)
  have hka : kS ≠ a := Nat.ne_of_gt (Nat.lt_of_lt_of_le (Heap.lt_size ha) hsz)
  have hkf : f ≠ kS := Nat.ne_of_lt (Nat.lt_of_lt_of_le (Heap.lt_size hf) hsz)
  have I1 : Inv X pins σ H { s with heap := ((s.heap.update a (Obj.mapSeq fun _ => #[])).push (seqObj "tuple" its.toArray 0)).push (seqObj "list" #[] 0) } :=
    I.turnedL (t' := s.toks) (ch := [a]) (fun b o hb e => keep1 b o (fun z => hb (by rw [z]; exact List.mem_singleton.mpr rfl)) e) fun b hb => by rw [List.mem_singleton.mp hb]; exact fa
  have hf1 := keep1 f _ haf hf
  show wpAny (model X.prog X.w) A (PyProof.Rows.ksk_rest a (.ref f) false its.toArray e1 (.ref kS)) _ E' { s with heap := ((s.heap.update a (Obj.mapSeq fun _ => #[])).push (seqObj "tuple" its.toArray 0)).push (seqObj "list" #[] 0) }
  generalize (((s.heap.update a (Obj.mapSeq fun _ => #[])).push (seqObj "tuple" its.toArray 0)).push (seqObj "list" #[] 0)) = g0 at ho6 hk0 I1 hf1 ⊢
  unfold PyProof.Rows.ksk_rest
  refine wpAny_bind (wpAny_rule ?_)
  first
    | rw [List.forIn_toArray]
    | (rw [← Array.forIn_toList]; simp only [List.toList_toArray])
    | rw [← Array.forIn_toList]
  refine wpAny_bind (PyProof.Rows.ksk_fold (fun j s' => ∃ H' keys kA e, Inv X pins σ H' s' ∧ P j H' keys ∧ Vals keys kA.toList ∧ kA.size = j ∧ s'.heap.get? kS = some (seqObj "list" kA e) ∧ H' kS = none ∧ s'.heap.get? a = some (seqObj "list" #[] e1) ∧ H' a = none ∧
      s'.heap.get? f = some (PySem.W.kla_obj "<lambda>" (X.env.qual ++ "<lambda>") params body scope (cloFrom X.env.cells scope.names []) pm c' ctv) ∧ H' f = none) its 0 _
    ⟨H, [], #[], 0, I1, h0, .nil, rfl, hk0, fk.1, ho6, fa.1, hf1, hfn⟩ ?step ?done)
  case step =>
    rintro j u s' hu ⟨H', keys, kA, e, I', hP, rk, hsz', nk, nkn, na, nan, nf, nfn⟩
    simp only [Nat.zero_add] at hP hsz' ⊢
    have hj : j < its.length := (List.getElem?_eq_some_iff.mp hu).1
    obtain ⟨v, hv, ru⟩ : ∃ v, vs[j]? = some v ∧ RelV v u := by
      obtain ⟨v, hv⟩ : ∃ v, vs[j]? = some v := ⟨_, List.getElem?_eq_getElem (by omega)⟩
      obtain ⟨u', hu', r⟩ := rv.get hv
      rw [hu] at hu'
      cases hu'
      exact ⟨v, hv, r⟩
    refine wpAny_bind (wpAny_attempt (wpAny_mono (lamP_call (Q := fun kv H2 => P (j + 1) H2 (keys ++ [kv])) (E := fun _ _ => False) I' L nd hi ru nf (hc _ _ _ hP) hbind hA hr hbody (step j H' keys v hv hP)) (fun ku s'' hq => ?_) fun _ _ hF => hF.elim))
    obtain ⟨kv, H2, os, bare, un, hok, r, hP2⟩ := hq
    obtain ⟨hh, g, d, t, os'⟩ := s''
    obtain rfl : os' = s'.os := os
    have I2 := I'.call (h' := hh) (g' := g) (d' := d) (t' := t) (ch := []) un hok bare (fun b z => absurd z (by simp))
    have kk : ∀ {b : Addr} {o : Obj}, s'.heap.get? b = some o → H' b = none → b ∉ frs X.stack → hh.get? b = some o ∧ H2 b = none := fun {b o} q n hb => ⟨un.keep b o q n hb (fun z => absurd z (by simp)), un.free b o q n (fun z => absurd z (by simp))⟩
    obtain ⟨nk2, nkn2⟩ := kk nk nkn (fpNofr I fk)
    obtain ⟨na2, nan2⟩ := kk na nan (fpNofr I fa)
    obtain ⟨nf2, nfn2⟩ := kk nf nfn hff
    try dsimp only
    have s1 := Heap.SameBut.update hh kS (Obj.mapSeq (·.push ku))
    obtain ⟨c2, hc2⟩ : ∃ c2, (hh.update kS (Obj.mapSeq (·.push ku))).get? kS = some (seqObj "list" (kA.push ku) c2) := ⟨_, get?_update_seq nk2 (·.push ku)⟩
    refine wpAny_bind (listUpdate_at nk2 rfl ?_ (by omega) (by rw [Array.size_push]; omega))
    have I3 : Inv X pins σ H2 { heap := hh.update kS (Obj.mapSeq (·.push ku)), gens := g, drawn := d, toks := t, os := s'.os } :=
      I2.turnedL (t' := t) (ch := [kS]) (fun b o hb e => (s1.2 b fun z => hb (by rw [z]; exact List.mem_singleton.mpr rfl)).trans e) fun b hb => by rw [List.mem_singleton.mp hb]; exact fpStay fk nkn2
    refine wpAny_pure ⟨rfl, H2, keys ++ [kv], kA.push ku, c2, I3, hP2, ?_, by rw [Array.size_push, hsz'], hc2, nkn2, (s1.2 a (Ne.symm hka)).trans na2, nan2, (s1.2 f hkf).trans nf2, nfn2⟩
    have ea : (kA.push ku).toList = kA.toList ++ [ku] := by simp
    rw [ea]
    exact rk.append (.cons r .nil)
  case done =>
    rintro s' ⟨H', keys, kA, e, I', hP, rk, hsz', nk, nkn, na, nan, nf, nfn⟩
    rw [Nat.zero_add] at hP hsz'
    rw [← hvl] at hP
    obtain ⟨M, ds, rl, ⟨a1, a2, a3⟩, q⟩ := done H' keys hP nan
    have ek : PySem.W.EachIs (fun u d => ∃ as, Reads s'.heap u (toPy d) as) kA.toList ds := (each_of rk rl).mono fun u d ⟨v, r, rd⟩ => Dp.reads I' _ v u rd.dp r
    refine wpAny_bind (listItems_at nk rfl ?_)
    have hkl : its.length = kA.toList.length := by rw [Array.length_toList]; exact hsz'.symm
    have SA : PySem.W.SortsAt X.prog X.w A s' (PySem.W.dataKind s'.heap (ds.map toPy)) kA.toList :=
      PySem.W.SortsAt.data (each_to_map (R := fun u d => ∃ as, Reads s'.heap u d as) toPy ek) (alkL_iff a1) (srtb_iff a2) fun d hd => by
        obtain ⟨d0, h0, rfl⟩ := List.mem_map.mp hd
        have := shpL_dep a3 h0
        have := hr.units
        omega
    have rs := sort_vals ek rv hkl a1
    refine k_end nk na hka SA hsz' hz fun h' c kp hob => ⟨rfl, ?_⟩
    have hlen : (keyOrd ds vs).length ≤ sizeLine := by
      rw [rs.length, PySem.W.sortVals_length false hkl.symm]; exact hz
    exact ⟨.ref a, _, inv_adopt (t' := s'.toks) I' (fpStay fa nan) (fpStay fk nkn) kp (show ObjOk X.prog X.w _ _ _ (.lst (keyOrd ds vs)) from ⟨hlen, _, c, rs, hob⟩), rfl, q⟩
end
end MP

namespace MP
open PySem PySem.Spec PyProof.Rows L2
open LamX (CodeO codeO_ne ExtN lamEnv lamCx TabB)

/-! ### sorted(.., key=lambda x: ..) -/
def KRest (K : PySem.W.Frag) (q : Str) (tb : TE) (σ : L2.St) (i : Nat) (vs : List V) (Q : VK) (H2 : Hp) : Prop := ∀ c', H2 c' = some (CodeO c' q) → ∃ P : Nat → Hp → List V → Prop, P 0 H2 [] ∧ (∀ j H ks, P j H ks → H c' = some (CodeO c' q)) ∧
  (∀ j H ks v, vs[j]? = some v → P j H ks → tb (σ.set i (some v)) H fun kv H' => P (j + 1) H' (ks ++ [kv])) ∧
  ∀ p H ks, P vs.length H ks → H p = none → ∃ M ds, RepL K H M ks ds ∧ (alkL ds = true ∧ srtb ds = true ∧ shpL ds = true) ∧ Q (.ref p) (upd H p (.lst (keyOrd ds vs)))
def tSortKL (K : PySem.W.Frag) (T : LTab) (q : Str) (te tb : TE) (i : Nat) : TE := fun σ H Q => te σ H fun v H1 => Tabs T H1 ∧ ∀ H2, ExtN H1 H2 → Tabs T H2 → ∃ a vs, v = .ref a ∧ SqL K H2 a vs ∧ KRest K q tb σ i vs Q H2
def tSortKR (K : PySem.W.Frag) (T : LTab) (q : Str) (te : L2.St → Hp → (Int → Int → Hp → Prop) → Prop) (tb : TE) (i : Nat) : TE := fun σ H Q => te σ H fun a b H1 => RgOk a b ∧ Tabs T H1 ∧ ∀ H2, ExtN H1 H2 → Tabs T H2 → KRest K q tb σ i (rgV a b) Q H2
/-- what v yields when it is collected -/
def Coll (P : Program) (w : World) (s : Shared) (v : Value) (vs : List V) : Prop := ∀ (A : Around) (E : Value → Shared → Prop) (R : List Value → Shared → Prop), A.handled = none →
  (∀ (h' : Heap) (tk : Nat) its, (∀ b o, s.heap.get? b = some o → h'.get? b = some o) → Vals vs its → R its { s with heap := h', toks := tk }) → wpAny (model P w) A (collect v) R E s
section
variable {X : Cx} {pins : List (Addr × Obj)} {σ : L2.St} {H : Hp} {s : Shared}
theorem coll_list {a : Addr} {vs : List V} (I : Inv X pins σ H s) (h : SqL X.K H a vs) : Coll X.prog X.w s (.ref a) vs ∧ vs.length ≤ sizeLine := by
  obtain ⟨its, rv, hl, hz⟩ := I.list h
  refine ⟨fun A E R _ hR => collect_list hl.isList ?_ (by rw [← rv.length]; exact hz), hz⟩
  exact hR _ s.toks its (fun b o e => (Heap.get?_update_ne _ _ _ _ (Nat.ne_of_lt (Heap.lt_size e))).trans (Heap.get?_push_of_some _ e)) rv
theorem coll_range {r : Addr} {a b : Int} {t u v : Tok} (h : IsRange s.heap r a b 1 t u v) (ok : RgOk a b) : Coll X.prog X.w s (.ref r) (rgV a b) := fun A E R hh hR => by
  obtain ⟨b1, b2, b3, b4, b5⟩ := ok
  exact collect_range hh h (small_one b1 b2 b3 b4) (rangeSize_nat a b) b5 fun h' tk acc hk hi => hR h' tk acc.toList hk (vals_rg hi)
theorem k_main {f c' : Addr} {pm ctv v : Value} {params : Arguments} {body : Expr} {scope : Scope} {k i : Nat} {x : Str} {tb : TE} {vs : List V} {Q : VK}
    (I : Inv X pins σ H s) (cl : Coll X.prog X.w s v vs) (hz : vs.length ≤ sizeLine) (L : LamP X.env.scope scope x) (nd : X.N.Nodup) (hi : X.N[i]? = some x)
    (hf : s.heap.get? f = some (PySem.W.kla_obj "<lambda>" (X.env.qual ++ "<lambda>") params body scope (cloFrom X.env.cells scope.names []) pm c' ctv)) (hfn : H f = none) (hff : f ∉ frs X.stack)
    (hbind : ∀ u, bindArgs (PySem.W.kla_fn "<lambda>" (X.env.qual ++ "<lambda>") params body scope (cloFrom X.env.cells scope.names []) pm (.ref c') ctv) ⟨[u], []⟩ = pure [(x, u)])
    (hr : Room (k + 3) X.A) (hbody : ∀ (A : Around) (outer : List Env) (s : Shared) (H : Hp), Room k (A.deeper (lamEnv X scope s.heap.objs.size f c')) → PE (lamCx X A outer s H (fun _ _ _ => False) scope f c') body tb)
    (hR : KRest X.K (X.env.qual ++ "<lambda>") tb σ i vs Q H) (hco : H c' = some (CodeO c' (X.env.qual ++ "<lambda>"))) :
    wpAny (model X.prog X.w) X.A (call (.builtin "sorted") [v] [(Str.ofString "key", .ref f)]) (EP X pins σ Q) X.xe s := by
  obtain ⟨P, p0, pc, ps, pd⟩ := hR c' hco
  have hr1 : Room (k + 2) X.A.in1 := Room.in1 hr
  refine sorted_of_collect (P := fun its => Vals vs its) (fun its h => by rw [← h.length]; exact hz) (fun E' R h => cl _ E' R hr1.hd h) (PyProof.Rows.ksk_s1 _ _) (fun _ => PyProof.Rows.ksk_l1 _ _) fun E' h' tk its kp rv => ?_
  have I0 : Inv X pins σ H { s with heap := h', toks := tk } := I.kept kp
  have I1 : Inv X pins σ H { s with heap := h'.push (seqObj "list" its.toArray 0), toks := tk } := I.kept fun b o e => Heap.get?_push_of_some _ (kp b o e)
  have hfa : f ≠ h'.objs.size := Nat.ne_of_lt (Heap.lt_size (kp _ _ hf))
  exact k_sort I1 L nd hi rv (by rw [← rv.length]; exact hz) (Heap.get?_push_of_some _ (kp _ _ hf)) hfn hff (Heap.get?_push_size _ rfl) (I0.fpOk (Nat.le_refl _) (I0.hok.fresh (Nat.le_refl _))) hfa hbind I.ok.frames (Room.in1 hr1) hbody pc p0 ps fun H ks => pd _ H ks
/-- a range made, its object ours -/
def PRgP (X : Cx) (e : Expr) (t : L2.St → Hp → (Int → Int → Hp → Prop) → Prop) : Prop :=
  ∀ (pins : List (Addr × Obj)) (s : Shared) (σ : L2.St) (H : Hp) (Q : Int → Int → Hp → Prop), Inv X pins σ H s → t σ H Q →
    wpAny (model X.prog X.w) X.A (eval e X.env) (fun x s' => ∃ r a b t u v H', x = .ref r ∧ IsRange s'.heap r a b 1 t u v ∧ Inv X pins σ H' s' ∧ FpOk X pins H' r ∧ Q a b H') X.xe s
theorem prgP_1 {a : Expr} {ta : TE} {p pos : Pos} (hg : Gl X "range") (hm : X.mg "range" = none) (ha : PE X a ta) (na : starEach [a] X.env = (false, eval a X.env) :: starEach [] X.env := by rfl) : PRgP X (.Call (.Name "range" p) [a] [] pos) (tRg1 ta) := by
  intro pins s σ H Q I h
  refine Call_ (ld_blt I hg hm boot_range (PyProof.Rows.callWith_type1 (one_arg ha I h (fun v s2 x H2 I2 r q => ?_) na) na))
  obtain ⟨n, rfl, q⟩ := q
  obtain ⟨t, rfl⟩ := r
  exact call_range_1 ⟨_, 0, n, _, _, _, H2, rfl, IsRange.new _ _ _ _ _ _ _, I2.kept fun b u e => Heap.get?_push_of_some _ e, I2.fpOk (Nat.le_refl _) (I2.hok.fresh (Nat.le_refl _)), q⟩
theorem prgP_2 {a b : Expr} {ta tb : TE} {p pos : Pos} (hg : Gl X "range") (hm : X.mg "range" = none) (ha : PE X a ta) (hb : PE X b tb) (na : starEach [a, b] X.env = (false, eval a X.env) :: starEach [b] X.env := by rfl)
    (nb : starEach [b] X.env = (false, eval b X.env) :: starEach [] X.env := by rfl) (hp : (backTo pos (starEach [b] X.env)).any (·.1) = false := by rfl) : PRgP X (.Call (.Name "range" p) [a, b] [] pos) (tRg2 ta tb) := by
  intro pins s σ H Q I h
  refine Call_ (ld_blt I hg hm boot_range (PyProof.Rows.callWith_type1 (args_cons (thn (ha.run pins s σ H _ I h) fun v s1 ⟨x, H1, I1, r1, q1⟩ => one_arg hb I1 q1 (fun u s2 y H2 I2 r2 q => ?_) nb) na) na hp))
  obtain ⟨i, j, rfl, rfl, q⟩ := q
  obtain ⟨t, rfl⟩ := r1
  obtain ⟨t', rfl⟩ := r2
  exact call_range_2 ⟨_, i, j, _, _, _, H2, rfl, IsRange.new _ _ _ _ _ _ _, I2.kept fun b u e => Heap.get?_push_of_some _ e, I2.fpOk (Nat.le_refl _) (I2.hok.fresh (Nat.le_refl _)), q⟩
theorem prgP_imp {e : Expr} {t t' : L2.St → Hp → (Int → Int → Hp → Prop) → Prop} (h : PRgP X e t) (hh : ∀ σ H Q, t' σ H Q → t σ H Q) : PRgP X e t' := fun pins s σ H Q I q => h pins s σ H Q I (hh σ H Q q)
variable {T : LTab} {e : Expr} {te tb : TE} {tr : L2.St → Hp → (Int → Int → Hp → Prop) → Prop} {params : Arguments} {body : Expr} {scope : Scope} {k i : Nat} {x : Str} {c P : Addr} {p pos lpos kpos : Pos}
theorem pe_sortKL (hg : Gl X "sorted") (hm : X.mg "sorted" = none) (he : PE X e te) (na : starEach [e] X.env = (false, eval e X.env) :: starEach [] X.env)
    (TB : TabB X.base X.mg c P) (hcode : X.env.code = .ref c) (hmT : (P, X.env.qual ++ "<lambda>") ∈ T) (hu : ∀ p ∈ T, p.1 = P → p.2 = X.env.qual ++ "<lambda>") (L : LamP X.env.scope scope x) (nd : X.N.Nodup) (hi : X.N[i]? = some x) (hdef : defaultsOf params X.env = ([], []))
    (hbind : ∀ (q : Str) (cl : List (Str × Addr)) (pm cv ctv u : Value), bindArgs (PySem.W.kla_fn "<lambda>" q params body scope cl pm cv ctv) ⟨[u], []⟩ = pure [(x, u)])
    (hr : Room (k + 3) X.A) (hbody : ∀ (A : Around) (outer : List Env) (s : Shared) (H : Hp) (f c' : Addr), Room k (A.deeper (lamEnv X scope s.heap.objs.size f c')) → PE (lamCx X A outer s H (fun _ _ _ => False) scope f c') body tb) :
    PE X (.Call (.Name "sorted" p) [e] [⟨some "key", .Lambda params body scope lpos, kpos⟩] pos) (tSortKL X.K T (X.env.qual ++ "<lambda>") te tb i) := by
  refine ⟨fun pins s σ H Q I h => ?_⟩
  refine wpAny_Call_Name_kw (ld_blt I hg hm boot_sorted' ?_)
  refine PyProof.Rows.callWith_kw (one_arg he I h (fun v s1 x H1 I1 r q => ?_) na) (by rw [na]; rfl) (by rw [na]; rfl) (by rfl) (by rfl)
  obtain ⟨hT, q⟩ := q
  show wpAny _ _ (evalAll ((do let v ← eval (.Lambda params body scope lpos) X.env; standAt pos; pure v) :: [])) _ _ s1
  refine wpAny_evalAll_cons (wpAny_bind (LamX.lam_make2 I1 TB hcode hmT hu hT hdef (L.has I1.ok) fun f c' pm ctv H2 s2 I2 eN T2 hf hfn hff hco => wpAny_bind (wpAny_standAt (wpAny_pure ?_))))
  refine wpAny_evalAll_nil ?_
  obtain ⟨a, vs, ev, hs, hR⟩ := q H2 eN T2
  subst ev
  obtain rfl : v = Value.ref a := r
  obtain ⟨cl, hz⟩ := coll_list I2 hs
  exact k_main I2 cl hz L nd hi hf hfn hff (fun u => hbind _ _ _ _ _ u) hr (fun A outer s H hr2 => hbody A outer s H f c' hr2) hR hco
theorem pe_sortKR (hg : Gl X "sorted") (hm : X.mg "sorted" = none) (he : PRgP X e tr) (na : starEach [e] X.env = (false, eval e X.env) :: starEach [] X.env)
    (TB : TabB X.base X.mg c P) (hcode : X.env.code = .ref c) (hmT : (P, X.env.qual ++ "<lambda>") ∈ T) (hu : ∀ p ∈ T, p.1 = P → p.2 = X.env.qual ++ "<lambda>") (L : LamP X.env.scope scope x) (nd : X.N.Nodup) (hi : X.N[i]? = some x) (hdef : defaultsOf params X.env = ([], []))
    (hbind : ∀ (q : Str) (cl : List (Str × Addr)) (pm cv ctv u : Value), bindArgs (PySem.W.kla_fn "<lambda>" q params body scope cl pm cv ctv) ⟨[u], []⟩ = pure [(x, u)])
    (hr : Room (k + 3) X.A) (hbody : ∀ (A : Around) (outer : List Env) (s : Shared) (H : Hp) (f c' : Addr), Room k (A.deeper (lamEnv X scope s.heap.objs.size f c')) → PE (lamCx X A outer s H (fun _ _ _ => False) scope f c') body tb) :
    PE X (.Call (.Name "sorted" p) [e] [⟨some "key", .Lambda params body scope lpos, kpos⟩] pos) (tSortKR X.K T (X.env.qual ++ "<lambda>") tr tb i) := by
  refine ⟨fun pins s σ H Q I h => ?_⟩
  refine wpAny_Call_Name_kw (ld_blt I hg hm boot_sorted' ?_)
  refine PyProof.Rows.callWith_kw (args_cons (thn (he pins s σ H _ I h) fun v s1 ⟨r, a, b, t, u, w, H1, ex, hrg, I1, fr, ok, hT, q⟩ => args_nil ?_) na) (by rw [na]; rfl) (by rw [na]; rfl) (by rfl) (by rfl)
  subst ex
  show wpAny _ _ (evalAll ((do let v ← eval (.Lambda params body scope lpos) X.env; standAt pos; pure v) :: [])) _ _ s1
  have Ip : Inv X ((r, { cls := .type "range", data := .fields #[.int a t, .int b u, .int 1 w] }) :: pins) σ H1 s1 := I1.pins_of fun q hq => by
    rcases List.mem_cons.mp hq with e | hq
    · rw [e]; exact ⟨hrg, fr.1, fr.2.1, fr.2.2.1, fun v z => by cases z⟩
    · exact I1.pin q (List.mem_append_right _ hq)
  refine wpAny_evalAll_cons (wpAny_bind (LamX.lam_make2 Ip TB hcode hmT hu hT hdef (L.has I1.ok) fun f c' pm ctv H2 s2 I2 eN T2 hf hfn hff hco => wpAny_bind (wpAny_standAt (wpAny_pure ?_))))
  refine wpAny_evalAll_nil ?_
  have hrg2 : IsRange s2.heap r a b 1 t u w := (I2.pin _ (List.mem_append_right _ List.mem_cons_self)).1
  have I3 : Inv X pins σ H2 s2 := I2.pins_of fun p hp => I2.pin p (List.mem_append_right _ (List.mem_cons_of_mem _ hp))
  exact k_main I3 (coll_range hrg2 ok) (by rw [rgV_length, sizeLine_eq]; have := ok.2.2.2.2; omega) L nd hi hf hfn hff (fun u => hbind _ _ _ _ _ u) hr (fun A outer s H hr2 => hbody A outer s H f c' hr2) (q H2 eN T2) hco
end
end MP

namespace MP
open PySem PySem.Spec PyProof.Rows L2
open LamX (CodeO codeO_ne ExtN lamEnv lamCx TabB)

/-! ### the keyed sort as a combinator -/
def kyL (i : Nat) (f : Ex) : List D → Store → R (List D × Store)
  | [], ρ => .ok ([], ρ)
  | d :: ds, ρ => (f (ρ.set i (.va d))).bind fun x => (kyL i f ds (x.2.set i .no)).bind fun y => .ok (x.1 :: y.1, y.2)
def itO (f : Eo) : Ei := fun ρ => (f ρ).bind fun x => match MP.res x.2 x.1 with
  | some (.lst ds) => .ok (ds, x.2)
  | _ => .bad
def srtK (i : Nat) (it : Ei) (f : Ex) : Ef := fun ρ => (it ρ).bind fun x => if ownOk x.2 [i] = true then (noX (kyL i f x.1 (x.2.set i .no))).bind fun y =>
    if alkL y.1 = true ∧ srtb y.1 = true ∧ shpL y.1 = true then .ok (keyOrd y.1 x.1, back x.2 y.2 [i]) else .bad
  else .bad
section
variable {K : PySem.W.Frag} {τ : LTab} {Wi : WiT} {F : Fr} {H H' : Hp} {M M' : Addr → Prop} {σ : L2.St} {ρ : Store} {ds : List D} {i : Nat}
theorem set_no {σ' : L2.St} (S : SR K τ F H M σ' ρ) (hl : σ'.length = σ.length) (he : ∀ j, j ≠ i → σ'[j]? = σ[j]?) : SR K τ F H M σ (ρ.set i .no) := by
  refine ⟨S.io, S.sub, S.dom, S.keep, S.rest, by rw [List.length_set, ← hl]; exact S.len, fun j => ?_, fun j k b hj hk => ?_, S.tab⟩
  · by_cases hj : j = i
    · subst hj
      by_cases h : j < ρ.length
      · rw [List.getElem?_set_self h]; exact .no
      · rw [List.getElem?_eq_none (l := ρ.set j .no) (by rw [List.length_set]; omega)]; exact .nil
    · rw [List.getElem?_set_ne (Ne.symm hj), ← he j hj]; exact S.sl j
  · have bk : ∀ {j : Nat} {b : Addr}, OwnAt H σ (ρ.set i .no) j b → OwnAt H σ' ρ j b := fun h => by
      rcases h.set1 with ⟨hj, c, x, h1, h2, h3⟩ | ⟨_, _, _, h⟩
      · exact ⟨c, x, by rw [he _ hj]; exact h1, h2, h3⟩
      · exact h.elim
    exact S.apart j k b (bk hj) (bk hk)
theorem set_unset {v : Option V} (S : SR K τ F H M (σ.set i v) ρ) : SR K τ F H M σ (ρ.set i .no) := set_no S (by rw [List.length_set]) fun j hj => List.getElem?_set_ne (Ne.symm hj)
/-- the slot is as it was before -/
theorem set_back {H1 : Hp} {M1 : Addr → Prop} {ρ1 : Store} (S1 : SR K τ F H1 M1 σ ρ1) (hT : ownOk ρ1 [i] = true) (S : SR K τ F H M σ ρ) (st : Step H1 M1 H M) : SR K τ F H M σ (back ρ1 ρ [i]) := by
  have hl1 : ρ1.length = σ.length := S1.len
  have hl : ρ.length = σ.length := S.len
  have no := List.all_eq_true.mp hT i (List.mem_singleton.mpr rfl)
  refine ⟨S.io, S.sub, S.dom, S.keep, S.rest, by rw [back_len]; exact hl, fun j => ?_, fun j k b hj hk => ?_, S.tab⟩
  · by_cases hj : j = i
    · subst hj
      by_cases h : j < ρ.length
      · rw [back_in (List.mem_singleton.mpr rfl) h]
        have s1 := S1.sl j
        have hb1 : j < ρ1.length := by omega
        have eg : ρ1.getD j .no = ρ1[j] := by rw [List.getD_eq_getElem?_getD, List.getElem?_eq_getElem hb1]; rfl
        rw [List.getElem?_eq_getElem hb1] at s1 no
        rw [eg]
        generalize hx : σ[j]? = sx at s1 ⊢
        generalize hy : ρ1[j] = sy at s1 no ⊢
        cases s1 with
        | no => exact .no
        | va r => exact .va (r.to st)
        | sc r => exact .sc (r.to st)
        | fn h => exact .fn h
        | ow _ _ _ => exact absurd (show false = true from no) (by decide)
        | dc _ _ _ => exact absurd (show false = true from no) (by decide)
        | ne _ => exact absurd (show false = true from no) (by decide)
        | bo _ _ _ => exact absurd (show false = true from no) (by decide)
      · rw [List.getElem?_eq_none (l := back ρ1 ρ [j]) (by rw [back_len]; omega)]; exact .nil
    · rw [back_out fun z => hj (List.mem_singleton.mp z)]; exact S.sl j
  · have bk : ∀ {j : Nat} {b : Addr}, OwnAt H σ (back ρ1 ρ [i]) j b → OwnAt H σ ρ j b := fun {j b} ⟨c, x, h1, h2, h3⟩ => by
      by_cases hj : j = i
      · subst hj
        by_cases h : j < ρ.length
        · rw [back_in (List.mem_singleton.mpr rfl) h] at h2
          have hb1 : j < ρ1.length := by omega
          have eg : ρ1.getD j .no = ρ1[j] := by rw [List.getD_eq_getElem?_getD, List.getElem?_eq_getElem hb1]; rfl
          rw [List.getElem?_eq_getElem hb1] at no
          rw [eg] at h2
          have ex : ρ1[j] = x := Option.some.inj h2
          rw [ex] at no
          have no' : (!x.own) = true := no
          rw [Sl.owns_own h3] at no'
          cases no'
        · rw [List.getElem?_eq_none (by rw [back_len]; omega)] at h2; cases h2
      · rw [back_out fun z => hj (List.mem_singleton.mp z)] at h2
        exact ⟨c, x, h1, h2, h3⟩
    exact S.apart j k b (bk hj) (bk hk)
theorem zip_rep {kd : List D} {vs : List V} {ds : List D} (r : RepL K H M vs ds) : RepL K H M (keyOrd kd vs) (keyOrd kd ds) := by
  obtain ⟨zs, e1, e2, e3⟩ : ∃ zs : List (D × V × D), kd.zip vs = zs.map (fun z => (z.1, z.2.1)) ∧ kd.zip ds = zs.map (fun z => (z.1, z.2.2)) ∧ ∀ z ∈ zs, Rep K H M z.2.1 z.2.2 := by
    induction kd generalizing vs ds with
    | nil => exact ⟨[], rfl, rfl, fun z hz => absurd hz (by simp)⟩
    | cons k kd ih =>
      cases ds with
      | nil => cases r; exact ⟨[], rfl, rfl, fun z hz => absurd hz (by simp)⟩
      | cons d ds =>
        cases r with
        | @cons v vs _ _ h1 h2 =>
          obtain ⟨zs, e1, e2, e3⟩ := ih h2
          refine ⟨(k, v, d) :: zs, by rw [List.zip_cons_cons, e1]; rfl, by rw [List.zip_cons_cons, e2]; rfl, fun z hz => ?_⟩
          rcases List.mem_cons.mp hz with e | hz
          · rw [e]; exact h1
          · exact e3 z hz
  have m1 : (zs.map fun z => (z.1, z.2.1)).mergeSort (fun a b : D × V => leS a.1 b.1) = (zs.mergeSort fun a b => leS a.1 b.1).map fun z => (z.1, z.2.1) :=
    (List.map_mergeSort (r := fun a b : D × V × D => leS a.1 b.1) (s := fun a b : D × V => leS a.1 b.1) (f := fun z => (z.1, z.2.1)) (fun _ _ _ _ => rfl)).symm
  have m2 : (zs.map fun z => (z.1, z.2.2)).mergeSort (fun a b : D × D => leS a.1 b.1) = (zs.mergeSort fun a b => leS a.1 b.1).map fun z => (z.1, z.2.2) :=
    (List.map_mergeSort (r := fun a b : D × V × D => leS a.1 b.1) (s := fun a b : D × D => leS a.1 b.1) (f := fun z => (z.1, z.2.2)) (fun _ _ _ _ => rfl)).symm
  unfold keyOrd
  rw [e1, e2, m1, m2, List.map_map, List.map_map]
  have hm : ∀ z ∈ zs.mergeSort fun a b : D × V × D => leS a.1 b.1, Rep K H M z.2.1 z.2.2 := fun z hz => e3 z ((List.mergeSort_perm _ _).mem_iff.mp hz)
  generalize (zs.mergeSort fun a b : D × V × D => leS a.1 b.1) = ws at hm
  induction ws with
  | nil => exact .nil
  | cons z ws ih => exact .cons (hm z List.mem_cons_self) (ih fun y hy => hm y (List.mem_cons_of_mem _ hy))
/-- the calls and the sort, from the items on -/
theorem t_kRest {q : Str} {f : Ex} {vs : List V} {Q : VK} {H2 : Hp} {M1 : Addr → Prop} {ρ1 : Store} (S1 : SR K τ F H2 M1 σ ρ1) (r : RepL K H2 M1 vs ds) (hT : ownOk ρ1 [i] = true)
    (h : match (noX (kyL i f ds (ρ1.set i .no))).bind fun y => if alkL y.1 = true ∧ srtb y.1 = true ∧ shpL y.1 = true then R.ok (keyOrd y.1 ds, back ρ1 y.2 [i]) else .bad with
      | .bad => False
      | .exc c p => Wi F c p
      | .ok (ds, ρ') => ∀ p H', NewL K τ F σ H2 M1 ρ' ds p H' → Q (.ref p) H') : KRest K q (tOf K τ Wi0 f) σ i vs Q H2 := by
  intro c' hco
  cases qL : kyL i f ds (ρ1.set i .no) with
  | bad => rw [qL] at h; exact h.elim
  | exc c p => rw [qL] at h; exact h.elim
  | ok y =>
    obtain ⟨total, ρf⟩ := y
    rw [qL, noX_ok, R.bind_ok] at h
    dsimp only at h
    by_cases hk : alkL total = true ∧ srtb total = true ∧ shpL total = true
    · rw [if_pos hk] at h
      have h : ∀ p H', NewL K τ F σ H2 M1 (back ρ1 ρf [i]) (keyOrd total ds) p H' → Q (.ref p) H' := h
      have fc := S1.tab.code hco
      refine ⟨fun j H ks => ∃ M ρ' kds rest, SR K τ F H M σ ρ' ∧ Step H2 M1 H M ∧ RepL K H M ks kds ∧ kyL i f (ds.drop j) ρ' = .ok (rest, ρf) ∧ kds ++ rest = total,
        ⟨M1, ρ1.set i .no, [], total, set_no S1 rfl fun _ _ => rfl, Step.refl, .nil, by simpa using qL, rfl⟩, fun j H ks ⟨M, ρ', kds, rest, _, st, _⟩ => (st _ _ fc).1, ?_, ?_⟩
      · rintro j H ks v hv ⟨M, ρ', kds, rest, S, st, rk, hL, ht⟩
        obtain ⟨d, hd, rd⟩ := r.get' hv
        have hlt : j < ds.length := (List.getElem?_eq_some_iff.mp hd).1
        have ed : ds.drop j = d :: ds.drop (j + 1) := by
          rw [List.drop_eq_getElem_cons hlt]
          have := List.getElem?_eq_getElem hlt
          rw [hd] at this
          rw [Option.some.inj this]
        rw [ed] at hL
        have hL : ((f (ρ'.set i (.va d))).bind fun x => (kyL i f (ds.drop (j + 1)) (x.2.set i .no)).bind fun y => R.ok (x.1 :: y.1, y.2)) = .ok (rest, ρf) := hL
        refine ⟨F, M, ρ'.set i (.va d), S.setVa (rd.to st), ?_⟩
        cases q1 : f (ρ'.set i (.va d)) with
        | bad => rw [q1] at hL; cases hL
        | exc c p => rw [q1] at hL; cases hL
        | ok x =>
          obtain ⟨dk, ρ4⟩ := x
          rw [q1, R.bind_ok] at hL
          intro kv H4 M4 rkv S4 st4
          have hL : ((kyL i f (ds.drop (j + 1)) (ρ4.set i .no)).bind fun y => R.ok (dk :: y.1, y.2)) = .ok (rest, ρf) := hL
          cases q2 : kyL i f (ds.drop (j + 1)) (ρ4.set i .no) with
          | bad => rw [q2] at hL; cases hL
          | exc c p => rw [q2] at hL; cases hL
          | ok y =>
            obtain ⟨rest', ρf'⟩ := y
            rw [q2] at hL
            have e1 : dk :: rest' = rest ∧ ρf' = ρf := by
              have := R.ok.inj hL
              exact ⟨congrArg Prod.fst this, congrArg Prod.snd this⟩
            refine ⟨M4, ρ4.set i .no, kds ++ [dk], rest', set_unset S4, st.trans st4, (rk.to st4).append (.cons rkv .nil), by rw [q2, e1.2], ?_⟩
            rw [List.append_assoc, List.singleton_append, e1.1]; exact ht
      · rintro p H ks ⟨M, ρ', kds, rest, S, st, rk, hL, ht⟩ hp
        rw [r.length, List.drop_length] at hL
        have hL : R.ok (([] : List D), ρ') = .ok (rest, ρf) := hL
        have e1 : rest = [] ∧ ρ' = ρf := by
          have := R.ok.inj hL
          exact ⟨(congrArg Prod.fst this).symm, congrArg Prod.snd this⟩
        obtain ⟨e1, e2⟩ := e1
        subst e1 e2
        rw [List.append_nil] at ht
        subst ht
        exact ⟨M, kds, rk, hk, h p _ ⟨H, M, keyOrd kds vs, set_back S1 hT S st, hp, New.upd hp, upd_same, zip_rep (r.to st), st⟩⟩
    · rw [if_neg hk] at h; exact h.elim
theorem t_srtKL {q : Str} {g : Eo} {f : Ex} {Q : VK} (h : tOfF K τ Wi (srtK i (itO g) f) σ H Q) : tSortKL K τ q (tOfO K τ Wi g) (tOf K τ Wi0 f) i σ H Q := by
  obtain ⟨F, M, ρ, S, h⟩ := h
  refine ⟨F, M, ρ, S, ?_⟩
  unfold srtK itO at h
  cases q1 : g ρ with
  | bad => rw [q1] at h; exact h
  | exc c p => rw [q1] at h; exact h
  | ok x =>
    obtain ⟨o, ρ1⟩ := x
    rw [q1, R.bind_ok] at h
    intro v H1 M1 r1 S1 st1
    refine ⟨S1.tab.1, fun H2 eN T2 => ?_⟩
    obtain ⟨st2, e2⟩ := S1.tab.ext eN
    have S2 := S1.same st2 e2 T2
    dsimp only at h
    cases q3 : MP.res ρ1 o with
    | none => rw [q3] at h; exact h.elim
    | some d =>
      rw [q3] at h
      cases d with
      | lst ds =>
        obtain ⟨a, vs, ev, ha, rl⟩ := (S2.res (r1.to st2) q3).lst
        refine ⟨a, vs, ev, SqL.of ha, ?_⟩
        dsimp only [R.bind_ok] at h
        by_cases hT : ownOk ρ1 [i] = true
        · rw [if_pos hT] at h
          refine t_kRest (Wi := Wi) S2 rl hT ?_
          revert h
          generalize ((noX (kyL i f ds (ρ1.set i .no))).bind fun y => if alkL y.1 = true ∧ srtb y.1 = true ∧ shpL y.1 = true then R.ok (keyOrd y.1 ds, back ρ1 y.2 [i]) else R.bad) = z
          intro h
          cases z with
          | bad => exact h
          | exc c p => exact h
          | ok y =>
            refine fun p H' n => h p H' ?_
            obtain ⟨H0, M0, vs, z1, z2, z3, z4, z5, z6⟩ := n
            exact ⟨H0, M0, vs, z1, z2, z3, z4, z5, (st1.trans st2).trans z6⟩
        · rw [if_neg hT] at h; exact h.elim
      | _ => exact h.elim
theorem t_srtKR {q : Str} {g : Ei} {f : Ex} {Q : VK} (h : tOfF K τ Wi (srtK i g f) σ H Q) : rgK K τ Wi g σ H fun a b H1 => RgOk a b ∧ Tabs τ H1 ∧ ∀ H2, ExtN H1 H2 → Tabs τ H2 → KRest K q (tOf K τ Wi0 f) σ i (rgV a b) Q H2 := by
  obtain ⟨F, M, ρ, S, h⟩ := h
  refine ⟨F, M, ρ, S, ?_⟩
  unfold srtK at h
  cases q1 : g ρ with
  | bad => rw [q1] at h; exact h
  | exc c p => rw [q1] at h; exact h
  | ok x =>
    obtain ⟨ds, ρ1⟩ := x
    rw [q1, R.bind_ok] at h
    intro a b H1 M1 hr ed S1 st1
    refine ⟨rgOk_R hr, S1.tab.1, fun H2 eN T2 => ?_⟩
    obtain ⟨st2, e2⟩ := S1.tab.ext eN
    have S2 := S1.same st2 e2 T2
    dsimp only at h
    by_cases hT : ownOk ρ1 [i] = true
    · rw [if_pos hT] at h
      subst ed
      refine t_kRest (Wi := Wi) S2 (rgV_rep a b) hT ?_
      revert h
      generalize ((noX (kyL i f (rng a b) (ρ1.set i .no))).bind fun y => if alkL y.1 = true ∧ srtb y.1 = true ∧ shpL y.1 = true then R.ok (keyOrd y.1 (rng a b), back ρ1 y.2 [i]) else R.bad) = z
      intro h
      cases z with
      | bad => exact h
      | exc c p => exact h
      | ok y =>
        refine fun p H' n => h p H' ?_
        obtain ⟨H0, M0, vs, z1, z2, z3, z4, z5, z6⟩ := n
        exact ⟨H0, M0, vs, z1, z2, z3, z4, z5, (st1.trans st2).trans z6⟩
    · rw [if_neg hT] at h; exact h.elim
end
end MP

namespace MP
open PySem PySem.Spec PyProof.Rows L2
open LamX (CodeO codeO_ne ExtN lamEnv lamCx TabB)

/-! ### lambdas compiled -/
theorem lam_bind (x : Str) (ap : Pos) (q : Str) (body : Expr) (scope : Scope) (cl : List (Str × Addr)) (pm cv ctv u : Value) :
    bindArgs (PySem.W.kla_fn "<lambda>" q ⟨[], [⟨x, none, ap⟩], none, [], [], none, []⟩ body scope cl pm cv ctv) ⟨[u], []⟩ = pure [(x, u)] := by
  have e : seqItems? Value.none = pure none := rfl
  unfold bindArgs PySem.W.kla_fn
  simp [List.lookup, e]
def CE.lamS (E : CE) (scope : Scope) : CE := { E with nm := scope.names, blk := some [], lam := false, an := [], er := [], ak := [] }
section
variable {τ : LTab} {X : Cx} {E : CE} {W : WX} {c : Cp}
theorem Good.lamS (g : Good τ E X W) {k : Nat} {A : Around} {outer : List Env} {s : Shared} {H : Hp} {E0 : XK} {scope : Scope} {f c' : Addr} (hk : scope.kind = .function) (hr : Room k (A.deeper (lamEnv X scope s.heap.objs.size f c')))
    (gm : ∀ x fi, E.gm.lookup x = some fi → ∃ f fd ps, FnOk X.prog X.w X.K X.mg X.base (L2.CX X.prog X.w) k f fd ps (spF X.mg X.K τ fi.n fi.io fi.Fn) ∧ X.mg x = some (.ref f) ∧ PySem.W.keepIn X.K (.ref f) = true ∧ Binds X.K fd ps [] ∧ ∀ ds, fi.Fn ds ≠ .bad → ds.length = fi.n) :
    Good τ (E.lamS scope) (lamCx X A outer s H E0 scope f c') (fun _ _ _ _ => False) := by
  refine ⟨g.N, g.nd, rfl, hk, rfl, fun x hx => ?_, ?_, g.bl, g.cs, fun x fi h => ?_, takes0, passes_of rfl, fun z => absurd (show false = true from z) (by decide), g.al, fun c hc => absurd hc List.not_mem_nil, fun x hs z => by cases z⟩
  · have hx : ((List.lookup x ([] : List (Str × NameKind))) == some .cell) = true := hx
    cases hx
  · have := hr.un
    show (A.deeper _).units + 150 < cLine
    omega
  · obtain ⟨f', fd, ps, F, h1, h2, h3, h4⟩ := gm x fi h
    exact ⟨k, f', fd, ps, F, hr, h1, h2, h3, h4⟩
/-- a range's items, its object ours -/
theorem mRgP_ok (ok : CpOk c) (g : Good τ E X W) {e : Expr} {f : Ei} (h : mRg c E e = some f) : PRgP X e (rgK X.K τ (WiOf X.mg X.K τ W) f) ∧ isStar e = false := by
  unfold mRg at h
  split at h
  · rename_i x p es pos
    refine ⟨?_, rfl⟩
    by_cases hx : x = "range" ∧ isB E x = true
    · rw [if_pos hx] at h
      obtain ⟨e1, hb⟩ := hx
      subst e1
      obtain ⟨a1, a2, a3, a4⟩ := g.bi hb
      split at h
      · rename_i a
        by_cases hs : isStar a = true
        · rw [if_pos hs] at h; cases h
        · rw [if_neg hs] at h
          have hs' : isStar a = false := by simpa using hs
          cases q : mO c E a with
          | none => rw [q] at h; cases h
          | some f1 => rw [q] at h; cases h; exact prgP_imp (prgP_1 a1 a4 (mO_ok ok g q) (star_of hs')) fun σ H Q => rg_ends1
      · rename_i a b
        by_cases hs : isStar a = true ∨ isStar b = true
        · rw [if_pos hs] at h; cases h
        · rw [if_neg hs] at h
          have hs1 : isStar a = false := by cases q : isStar a <;> simp_all
          have hs2 : isStar b = false := by cases q : isStar b <;> simp_all
          cases q : mO c E a with
          | none => rw [q] at h; cases h
          | some f1 =>
            rw [q, Option.bind_some] at h
            cases q2 : mO c E b with
            | none => rw [q2] at h; cases h
            | some f2 => rw [q2] at h; cases h; exact prgP_imp (prgP_2 a1 a4 (mO_ok ok g q) (mO_ok ok g q2) (star_of hs1) (star_of hs2) (by rw [star_of hs2]; rfl)) fun σ H Q => rg_ends2
      · cases h
    · rw [if_neg hx] at h; cases h
  · cases h
def mSortK (c : Cp) (E : CE) (e : Expr) : Expr → Option Em
  | .Lambda ⟨[], [⟨x, none, _⟩], none, [], [], none, []⟩ body scope _ => if E.lam = true ∧ isB E "sorted" = true ∧ isStar e = false ∧ lamPB E.nm scope x = true then
      (ixOf x E.N).bind fun i => (mE c (E.lamS scope) body).bind fun f => match mRg c E e with
        | some it => some (nw (srtK i it f))
        | none => (mO c E e).map fun g => nw (srtK i (itO g) f)
    else none
  | _ => none
theorem mSortK_ok (ok : CpOk c) (g : Good τ E X W) {e l : Expr} {f : Em} {p kp pos : Pos} (h : mSortK c E e l = some f) : PE X (.Call (.Name "sorted" p) [e] [⟨some "key", l, kp⟩] pos) (tOfM X.K τ (WiOf X.mg X.K τ W) f) := by
  unfold mSortK at h
  split at h
  · rename_i x ap body scope lp
    by_cases hc : E.lam = true ∧ isB E "sorted" = true ∧ isStar e = false ∧ lamPB E.nm scope x = true
    · rw [if_pos hc] at h
      obtain ⟨h1, h2, h3, h4⟩ := hc
      obtain ⟨a1, a2, a3, a4⟩ := g.bi h2
      have L : LamP X.env.scope scope x := lamP_by (by rw [g.nm]; exact h4)
      obtain ⟨⟨k, hr, gm⟩, cc, P, TB, hcode, hmT, hu⟩ := g.lm h1
      cases qi : ixOf x E.N with
      | none => rw [qi] at h; cases h
      | some i =>
        rw [qi, Option.bind_some] at h
        have hi : X.N[i]? = some x := by rw [g.N]; exact ixOf_some qi
        cases qf : mE c (E.lamS scope) body with
        | none => rw [qf] at h; cases h
        | some fb =>
          rw [qf, Option.bind_some] at h
          have hbody : ∀ (A : Around) (outer : List Env) (s : Shared) (H : Hp) (f c' : Addr), Room k (A.deeper (lamEnv X scope s.heap.objs.size f c')) → PE (lamCx X A outer s H (fun _ _ _ => False) scope f c') body (tOf X.K τ Wi0 fb) := fun A outer s H f c' hr2 =>
            pe_imp (mE_ok ok (g.lamS L.kind hr2 gm) qf) fun σ H Q => tOf_wi fun _ _ _ z => z.elim
          cases qr : mRg c E e with
          | some it =>
            rw [qr] at h
            cases h
            exact pe_imp (pe_sortKR a1 a4 (mRgP_ok ok g qr).1 (star_of h3) TB hcode hmT hu L g.nd hi rfl (fun q cl pm cv ctv u => lam_bind x ap q body scope cl pm cv ctv u) hr hbody) fun σ H Q q => t_srtKR (t_nw q)
          | none =>
            rw [qr] at h
            cases qo : mO c E e with
            | none => rw [qo] at h; cases h
            | some fo =>
              rw [qo] at h
              cases h
              exact pe_imp (pe_sortKL a1 a4 (mO_ok ok g qo) (star_of h3) TB hcode hmT hu L g.nd hi rfl (fun q cl pm cv ctv u => lam_bind x ap q body scope cl pm cv ctv u) hr hbody) fun σ H Q q => t_srtKL (t_nw q)
    · rw [if_neg hc] at h; cases h
  · cases h
def yM (c : Cp) (E : CE) : Expr → Option Em
  | .Call (.Name x _) [e] [⟨some k, l, _⟩] _ => if x = "sorted" ∧ k = "key" then mSortK c E e l else none
  | _ => none
theorem yM_ok (ok : CpOk c) (g : Good τ E X W) {e : Expr} {f : Em} (h : yM c E e = some f) : PE X e (tOfM X.K τ (WiOf X.mg X.K τ W) f) := by
  unfold yM at h
  split at h
  · rename_i x p e k l kp pos
    by_cases hc : x = "sorted" ∧ k = "key"
    · rw [if_pos hc] at h
      obtain ⟨rfl, rfl⟩ := hc
      exact mSortK_ok ok g h
    · rw [if_neg hc] at h; cases h
  · cases h
end
end MP

namespace MP
open PySem PySem.Spec PyProof.Rows L2

/-! ### dicts of plain values: what they answer -/
def keyOf : D → Option Key
  | .int i => some (.inl i)
  | .str x => some (.inr x)
  | _ => none
def keysOf : List D → Option (List Key)
  | [] => some []
  | d :: ds => (keyOf d).bind fun k => (keysOf ds).map fun ks => k :: ks
/-- the key that a tree is -/
def kcd : D → Option (Key ⊕ List Key)
  | .tup ds => (keysOf ds).map .inr
  | d => (keyOf d).map .inl
/-- is it a key of a dict of this kind? -/
def kOk (t : Bool) (d : D) : Bool := match kcd d with
  | some (.inl _) => !t
  | some (.inr _) => t && !KTok
  | none => false
def kEq (a b : D) : Bool := decide (kcd a = kcd b)
def dGet (kvs : List (D × D)) (k : D) : Option D := (kvs.find? fun p => kEq p.1 k).map (·.2)
def dPut (kvs : List (D × D)) (k v : D) : List (D × D) := if kvs.any (fun p => kEq p.1 k) = true then kvs.map fun p => if kEq p.1 k = true then (p.1, v) else p else kvs ++ [(k, v)]

theorem dGet_pos {q : D × D} {kvs : List (D × D)} {d : D} (h : kEq q.1 d = true) : dGet (q :: kvs) d = some q.2 := by
  unfold dGet
  simp only [List.find?_cons, h, Option.map_some]
theorem dGet_neg {q : D × D} {kvs : List (D × D)} {d : D} (h : ¬ kEq q.1 d = true) : dGet (q :: kvs) d = dGet kvs d := by
  have h' : kEq q.1 d = false := by simpa using h
  unfold dGet
  simp only [List.find?_cons, h']
theorem keyOf_keyD (k : Key) : keyOf (keyD k) = some k := by cases k <;> rfl
theorem keyOf_some {d : D} {k : Key} (h : keyOf d = some k) : d = keyD k := by
  cases d <;> first | (cases h; rfl) | cases h
theorem keysOf_map (ks : List Key) : keysOf (ks.map keyD) = some ks := by
  induction ks with
  | nil => rfl
  | cons k ks ih => show (keyOf (keyD k)).bind _ = _; rw [keyOf_keyD, Option.bind_some]; show ((keysOf (ks.map keyD)).map _) = _; rw [ih]; rfl
theorem keysOf_some : ∀ {ds : List D} {ks : List Key}, keysOf ds = some ks → ds = ks.map keyD
  | [], ks, h => by cases h; rfl
  | d :: ds, ks, h => by
    unfold keysOf at h
    cases q : keyOf d with
    | none => rw [q] at h; cases h
    | some k =>
      rw [q, Option.bind_some] at h
      cases q2 : keysOf ds with
      | none => rw [q2] at h; cases h
      | some ks' =>
        rw [q2] at h
        cases h
        rw [keyOf_some q, keysOf_some q2]
        rfl
theorem kcd_keyD (k : Key) : kcd (keyD k) = some (.inl k) := by cases k <;> rfl
theorem kcd_tup (ks : List Key) : kcd (.tup (ks.map keyD)) = some (.inr ks) := by show (keysOf _).map _ = _; rw [keysOf_map]; rfl
theorem kcd_inl {d : D} {k : Key} (h : kcd d = some (.inl k)) : d = keyD k := by
  cases d with
  | tup ds => rw [kcd] at h; cases q : keysOf ds <;> rw [q] at h <;> cases h
  | int i => cases h; rfl
  | str x => cases h; rfl
  | _ => cases h
theorem kcd_inr {d : D} {ks : List Key} (h : kcd d = some (.inr ks)) : d = .tup (ks.map keyD) := by
  cases d with
  | tup ds =>
    rw [kcd] at h
    cases q : keysOf ds with
    | none => rw [q] at h; cases h
    | some ks' => rw [q] at h; cases h; rw [keysOf_some q]
  | _ => cases h
section
variable {K : PySem.W.Frag} {τ : LTab} {Wi : WiT} {F : Fr} {H H' : Hp} {M M' : Addr → Prop} {σ : L2.St} {ρ : Store}
/-- the value of a key -/
theorem rep_key {v : V} {k : Key} (h : Rep K H M v (keyD k)) : v = kV k := by
  cases k with
  | inl i => cases h; rfl
  | inr x => cases h; rfl
theorem repL_keys : ∀ {ks : List Key} {vs : List V}, RepL K H M vs (ks.map keyD) → vs = ks.map kV
  | [], _, h => by cases h; rfl
  | k :: ks, _, h => by
    cases h with
    | cons h1 h2 => rw [rep_key h1, repL_keys h2]; rfl
theorem rep_tkey {v : V} {ks : List Key} (hk : KTok = false) (h : Rep K H M v (.tup (ks.map keyD))) : ∃ b, v = .ref b ∧ H b = some (.tup (ks.map kV)) := by
  cases h with
  | tup h1 h2 =>
    rcases h1 with q | q
    · exact ⟨_, rfl, by rw [← repL_keys h2]; exact q.1⟩
    · have z := q.1
      rw [hk] at z
      cases z
/-- what is found -/
def OptR (K : PySem.W.Frag) (H : Hp) (M : Addr → Prop) : Option V → Option D → Prop
  | none, none => True
  | some v, some d => Rep K H M v d
  | _, _ => False
theorem find_keys {κ : Type} [DecidableEq κ] (f : κ → D) (g : κ → Key ⊕ List Key) (hf : ∀ k, kcd (f k) = some (g k)) (hg : ∀ a b, g a = g b → a = b) (k : κ) :
    ∀ {kv : List (κ × V)} {kvs : List (D × D)}, kvs.map (·.1) = kv.map (fun p => f p.1) → RepL K H M (kv.map (·.2)) (kvs.map (·.2)) → OptR K H M (valV kv k) (dGet kvs (f k))
  | [], [], _, _ => True.intro
  | [], _ :: _, h, _ => by cases h
  | _ :: _, [], h, _ => by cases h
  | p :: kv, q :: kvs, h, r => by
    have h1 : q.1 = f p.1 := (List.cons.inj h).1
    have h2 := (List.cons.inj h).2
    cases r with
    | cons r1 r2 =>
      by_cases e : p.1 = k
      · have e2 : kEq q.1 (f k) = true := by unfold kEq; rw [h1, e]; exact decide_eq_true rfl
        rw [valV_pos e, dGet_pos e2]
        exact r1
      · have e2 : ¬ kEq q.1 (f k) = true := fun z => e (by
          unfold kEq at z
          have z := of_decide_eq_true z
          rw [h1, hf, hf] at z
          exact hg _ _ (Option.some.inj z))
        rw [valV_neg e, dGet_neg e2]
        exact find_keys f g hf hg k h2 r2
theorem DicR.get {a : Addr} {kvs : List (D × D)} {t : Bool} {v : V} {d : D} (h : DicR K H M a kvs t) (rk : Rep K H M v d) (ok : kOk t d = true) : ∃ o, DGet H a v o ∧ OptR K H M o (dGet kvs d) := by
  unfold kOk at ok
  cases q : kcd d with
  | none => rw [q] at ok; cases ok
  | some c =>
    rw [q] at ok
    cases h with
    | k h1 h2 h3 =>
      cases c with
      | inr ks => cases ok
      | inl k =>
        have e := kcd_inl q
        subst e
        rw [rep_key rk]
        exact ⟨_, DGet.k h1, find_keys keyD .inl kcd_keyD (fun _ _ z => Sum.inl.inj z) k h2 h3⟩
    | t h1 h2 h3 =>
      cases c with
      | inl k => cases ok
      | inr ks =>
        have e := kcd_inr q
        subst e
        have hk : KTok = false := by simpa using ok
        obtain ⟨b, eb, hb⟩ := rep_tkey hk rk
        subst eb
        exact ⟨_, DGet.t h1 hb, find_keys (fun ks => D.tup (ks.map keyD)) .inr kcd_tup (fun _ _ z => Sum.inr.inj z) ks h2 h3⟩
theorem any_keys {κ : Type} [DecidableEq κ] (f : κ → D) (g : κ → Key ⊕ List Key) (hf : ∀ k, kcd (f k) = some (g k)) (hg : ∀ a b, g a = g b → a = b) (k : κ) :
    ∀ {kv : List (κ × V)} {kvs : List (D × D)}, kvs.map (·.1) = kv.map (fun p => f p.1) → (kvs.any fun p => kEq p.1 (f k)) = kv.any fun p => decide (p.1 = k)
  | [], [], _ => rfl
  | [], _ :: _, h => by cases h
  | _ :: _, [], h => by cases h
  | p :: kv, q :: kvs, h => by
    have h1 : q.1 = f p.1 := (List.cons.inj h).1
    have e : kEq q.1 (f k) = decide (p.1 = k) := by
      unfold kEq
      rw [h1, hf, hf]
      exact decide_eq_decide.mpr ⟨fun z => hg _ _ (Option.some.inj z), fun z => by rw [z]⟩
    rw [List.any_cons, List.any_cons, e, any_keys f g hf hg k (List.cons.inj h).2]
theorem put_map {κ : Type} [DecidableEq κ] (f : κ → D) (g : κ → Key ⊕ List Key) (hf : ∀ k, kcd (f k) = some (g k)) (hg : ∀ a b, g a = g b → a = b) (k : κ) {v : V} {dv : D} (rv : Rep K H M v dv) :
    ∀ {kv : List (κ × V)} {kvs : List (D × D)}, kvs.map (·.1) = kv.map (fun p => f p.1) → RepL K H M (kv.map (·.2)) (kvs.map (·.2)) →
      (kvs.map fun p => if kEq p.1 (f k) = true then (p.1, dv) else p).map (·.1) = (kv.map fun p => if p.1 = k then (p.1, v) else p).map (fun p => f p.1) ∧
      RepL K H M ((kv.map fun p => if p.1 = k then (p.1, v) else p).map (·.2)) ((kvs.map fun p => if kEq p.1 (f k) = true then (p.1, dv) else p).map (·.2))
  | [], [], _, _ => ⟨rfl, .nil⟩
  | [], _ :: _, h, _ => by cases h
  | _ :: _, [], h, _ => by cases h
  | p :: kv, q :: kvs, h, r => by
    have h1 : q.1 = f p.1 := (List.cons.inj h).1
    have e : kEq q.1 (f k) = decide (p.1 = k) := by
      unfold kEq
      rw [h1, hf, hf]
      exact decide_eq_decide.mpr ⟨fun z => hg _ _ (Option.some.inj z), fun z => by rw [z]⟩
    cases r with
    | cons r1 r2 =>
      obtain ⟨i1, i2⟩ := put_map f g hf hg k rv (List.cons.inj h).2 r2
      simp only [List.map_cons, e, decide_eq_true_eq]
      by_cases z : p.1 = k
      · rw [if_pos z, if_pos z]
        exact ⟨by rw [i1]; exact congrArg (· :: _) h1, .cons rv i2⟩
      · rw [if_neg z, if_neg z]
        exact ⟨by rw [i1]; exact congrArg (· :: _) h1, .cons r1 i2⟩
theorem put_keys {κ : Type} [DecidableEq κ] (f : κ → D) (g : κ → Key ⊕ List Key) (hf : ∀ k, kcd (f k) = some (g k)) (hg : ∀ a b, g a = g b → a = b) (k : κ) {v : V} {dv : D} (rv : Rep K H M v dv)
    {kv : List (κ × V)} {kvs : List (D × D)} (h : kvs.map (·.1) = kv.map (fun p => f p.1)) (r : RepL K H M (kv.map (·.2)) (kvs.map (·.2))) :
      (dPut kvs (f k) dv).map (·.1) = (putK kv k v).map (fun p => f p.1) ∧ RepL K H M ((putK kv k v).map (·.2)) ((dPut kvs (f k) dv).map (·.2)) := by
  have e := any_keys f g hf hg k h
  unfold dPut putK
  rw [e]
  by_cases z : (kv.any fun p => decide (p.1 = k)) = true
  · rw [if_pos z, if_pos z]
    exact put_map f g hf hg k rv h r
  · rw [if_neg z, if_neg z, List.map_append, List.map_append, List.map_append, List.map_append]
    exact ⟨by rw [h]; rfl, r.append (.cons rv .nil)⟩
/-- one slot's things are changed -/
theorem SR.chg {i : Nat} {b : Addr} {x x' : Sl} (S : SR K τ F H M σ ρ) (hσ : σ[i]? = some (some (.ref b))) (hρ : ρ[i]? = some x) (st : Step H M H' M') (hM : ∀ a, M a → M' a) (dom : ∀ a, M' a → H' a ≠ none)
    (rest : ∀ a, F.M0 a → ¬ F.io a → H' a = H a) (el : ∀ j, j ≠ i → ∀ a, OwnAt H σ ρ j a → H' a = H a) (new : SlR K F H' M' (some (some (.ref b))) (some x'))
    (kids : ∀ c, x'.owns H' b c → OwnAt H σ ρ i c ∨ ∀ j, ¬ OwnAt H σ ρ j c) (tab : TabM τ H' M') : SR K τ F H' M' σ (ρ.set i x') := by
  have hi : i < ρ.length := (List.getElem?_eq_some_iff.mp hρ).1
  have sl := fun j (hj : j ≠ i) => S.slSame (M' := M') st (fun a q => hM a (S.sub a q)) j fun a q => ⟨el j hj a q, .inl (hM a (S.ownM q))⟩
  refine ⟨S.io, fun a q => hM a (S.sub a q), dom, S.keep.trans st, fun a h1 h2 => (rest a h1 h2).trans (S.rest a h1 h2), by rw [List.length_set]; exact S.len, fun j => ?_, fun j k c hj hk => ?_, tab⟩
  · by_cases hj : j = i
    · subst hj
      rw [List.getElem?_set_self hi, hσ]
      exact new
    · rw [List.getElem?_set_ne (Ne.symm hj)]
      exact (sl j hj).1
  · have back : ∀ {j : Nat}, OwnAt H' σ (ρ.set i x') j c → (j ≠ i ∧ OwnAt H σ ρ j c) ∨ (j = i ∧ (OwnAt H σ ρ i c ∨ ∀ j, ¬ OwnAt H σ ρ j c)) := fun {j} h => by
      rcases h.set1 with ⟨hj, h⟩ | ⟨hj, b', e, h⟩
      · exact .inl ⟨hj, (sl j hj).2 c h⟩
      · rw [hσ] at e
        cases e
        exact .inr ⟨hj, kids c h⟩
    rcases back hj with ⟨j1, o1⟩ | ⟨j1, o1⟩ <;> rcases back hk with ⟨k1, o2⟩ | ⟨k1, o2⟩
    · exact S.apart j k c o1 o2
    · rcases o2 with o2 | o2
      · rw [k1]; exact S.apart j i c o1 o2
      · exact absurd o1 (o2 j)
    · rcases o1 with o1 | o1
      · rw [j1]; exact S.apart i k c o1 o2
      · exact absurd o2 (o1 k)
    · rw [j1, k1]
theorem tabs_ow0 {T : LTab} {H : Hp} {a : Addr} {o o' : HO} (t : Tabs T H) (e : H a = some o) (ho : isOwn o) : Tabs T (upd H a o') := fun p hp => tabS_upd (t p hp) e (fun _ z => by rw [z] at ho; exact ho) fun c q z => by
  unfold LamX.CodeO at z
  rw [z] at ho
  exact ho
theorem TabM.wr {a : Addr} {o o' : HO} (t : TabM τ H M) (e : H a = some o) (ho : isOwn o) (ho' : isOwn o') : TabM τ (upd H a o') M := ⟨tabs_ow0 t.1 e ho, fun b m => by
  by_cases hb : b = a
  · rw [hb, upd_same]; exact ⟨_, rfl, ho'⟩
  · rw [upd_ne hb]; exact t.2 b m⟩
theorem isOwn_mut {o : HO} (h : isOwn o) : isMut o := by cases o <;> first | exact True.intro | exact h.elim
/-- an owned thing is written -/
theorem Step.wr {a : Addr} {o o' : HO} (e : H a = some o) (ho : isOwn o) (hm : M a) : Step H M (upd H a o') M := fun b u f => by
  have hb : b ≠ a := by
    intro z
    rw [z] at f
    have q := f.1
    rw [e] at q
    cases q
    exact f.2.2 (isOwn_mut ho) hm
  exact ⟨by rw [upd_ne hb]; exact f.1, f.2⟩
theorem DicR.obj {a : Addr} {kvs : List (D × D)} {t : Bool} (h : DicR K H M a kvs t) : ∃ o, H a = some o ∧ isOwn o := by
  cases h with
  | k h1 _ _ => exact ⟨_, h1, True.intro⟩
  | t h1 _ _ => exact ⟨_, h1, True.intro⟩
/-- the dict in a slot is written -/
theorem SR.wrDic {i : Nat} {a : Addr} {kvs kvs' : List (D × D)} {t : Bool} {o' : HO} (S : SR K τ F H M σ ρ) (hσ : σ[i]? = some (some (.ref a))) (hρ : ρ[i]? = some (.dc kvs t)) (ho : isOwn o')
    (new : DicR K (upd H a o') M a kvs' t) : SR K τ F (upd H a o') M σ (ρ.set i (.dc kvs' t)) ∧ Step H M (upd H a o') M := by
  have s := S.sl i
  rw [hσ, hρ] at s
  cases s with
  | dc m n d =>
    obtain ⟨o, e, h1⟩ := d.obj
    have st : Step H M (upd H a o') M := Step.wr e h1 m
    refine ⟨S.chg hσ hρ st (fun _ q => q) (fun b q => ?_) (fun b h1 h2 => upd_ne fun z => n (z ▸ h1)) (fun j hj b q => upd_ne fun z => hj (S.apart j i a (z ▸ q) (.top hσ hρ rfl))) (.dc m n new)
      (fun c q => .inl (by have e : c = a := q; rw [e]; exact .top hσ hρ rfl)) (S.tab.wr e h1 ho), st⟩
    by_cases hb : b = a
    · rw [hb, upd_same]; exact fun z => nomatch z
    · rw [upd_ne hb]; exact S.dom b q
/-! ### reading and writing -/
def dcAt (i : Nat) (ρ : Store) : R (List (D × D) × Bool) := match ρ[i]? with
  | some (.dc kvs t) => .ok (kvs, t)
  | _ => .bad
theorem dcAt_noexc {i : Nat} {c : Str} {p : D} : dcAt i ρ ≠ .exc c p := by
  intro e
  unfold dcAt at e
  split at e <;> cases e
theorem SR.dcAt {i : Nat} {d : List (D × D) × Bool} (S : SR K τ F H M σ ρ) (q : MP.dcAt i ρ = .ok d) : ρ[i]? = some (.dc d.1 d.2) ∧ ∃ a, σ[i]? = some (some (.ref a)) ∧ M a ∧ DicR K H M a d.1 d.2 := by
  unfold MP.dcAt at q
  split at q
  · rename_i kvs t e
    cases q
    have s := S.sl i
    rw [e] at s
    refine ⟨e, ?_⟩
    generalize hx : σ[i]? = sx at s
    cases s with
    | dc m n h => exact ⟨_, rfl, m, h⟩
  · cases q
/-- x[k] -/
def mDGet (i : Nat) (f : Ex) : Ex := fun ρ => (dcAt i ρ).bind fun _ => (f ρ).bind fun x => (dcAt i x.2).bind fun d => if kOk d.2 x.1 = true then (ofO (dGet d.1 x.1)).bind fun v => .ok (v, x.2) else .bad
theorem t_mDGet {i : Nat} {f : Ex} {Q : VK} (h : tOf K τ Wi (mDGet i f) σ H Q) : tDGet (tVar i) (tOf K τ Wi f) σ H Q := by
  obtain ⟨F, M, ρ, S, h⟩ := h
  unfold mDGet at h
  cases q0 : dcAt i ρ with
  | bad => rw [q0] at h; exact h.elim
  | exc c p => exact absurd q0 dcAt_noexc
  | ok d0 =>
    obtain ⟨_, a, hv, _, _⟩ := S.dcAt q0
    rw [q0, R.bind_ok] at h
    refine ⟨.ref a, hv, F, M, ρ, S, ?_⟩
    cases q1 : f ρ with
    | bad => rw [q1] at h; exact h
    | exc c p => rw [q1] at h; exact h
    | ok x =>
      rw [q1, R.bind_ok] at h
      refine fun v H1 M1 r1 S1 st1 => ?_
      cases q2 : dcAt i x.2 with
      | bad => rw [q2] at h; exact h.elim
      | exc c p => exact absurd q2 dcAt_noexc
      | ok d =>
        rw [q2, R.bind_ok] at h
        obtain ⟨_, a', hv', _, dr⟩ := S1.dcAt q2
        rw [hv] at hv'
        cases hv'
        by_cases ok : kOk d.2 x.1 = true
        · rw [if_pos ok] at h
          obtain ⟨o, g, ro⟩ := dr.get r1 ok
          cases q3 : dGet d.1 x.1 with
          | none => rw [q3] at h; exact h.elim
          | some dv =>
            rw [q3] at h ro
            cases o with
            | none => exact ro.elim
            | some w => exact ⟨a, w, rfl, g, h w H1 M1 ro S1 st1⟩
        · rw [if_neg ok] at h; exact h.elim
/-- k in x (n = false), k not in x (n = true) -/
def mDIn (n : Bool) (i : Nat) (f : Ex) : Ex := fun ρ => (f ρ).bind fun x => (dcAt i x.2).bind fun d => if kOk d.2 x.1 = true then .ok (.bl ((dGet d.1 x.1).isSome != n), x.2) else .bad
theorem OptR.isSome {o : Option V} {u : Option D} (h : OptR K H M o u) : o.isSome = u.isSome := by
  cases o <;> cases u <;> first | rfl | exact h.elim
theorem t_mDIn {n : Bool} {i : Nat} {f : Ex} {Q : VK} (h : tOf K τ Wi (mDIn n i f) σ H Q) : (if n = true then tDNotIn (tOf K τ Wi f) (tVar i) else tDIn (tOf K τ Wi f) (tVar i)) σ H Q := by
  have go : tOf K τ Wi f σ H fun y H1 => tVar i σ H1 fun x H2 => ∃ a o, x = .ref a ∧ DGet H2 a y o ∧ Q (.bl (o.isSome != n)) H2 := by
    obtain ⟨F, M, ρ, S, h⟩ := h
    unfold mDIn at h
    refine ⟨F, M, ρ, S, ?_⟩
    cases q1 : f ρ with
    | bad => rw [q1] at h; exact h
    | exc c p => rw [q1] at h; exact h
    | ok x =>
      rw [q1, R.bind_ok] at h
      refine fun v H1 M1 r1 S1 st1 => ?_
      cases q2 : dcAt i x.2 with
      | bad => rw [q2] at h; exact h.elim
      | exc c p => exact absurd q2 dcAt_noexc
      | ok d =>
        rw [q2, R.bind_ok] at h
        obtain ⟨_, a, hv, _, dr⟩ := S1.dcAt q2
        by_cases ok : kOk d.2 x.1 = true
        · rw [if_pos ok] at h
          obtain ⟨o, g, ro⟩ := dr.get r1 ok
          refine ⟨_, hv, a, o, rfl, g, ?_⟩
          rw [ro.isSome]
          exact h _ H1 M1 (.bl _) S1 st1
        · rw [if_neg ok] at h; exact h.elim
  cases n with
  | false => simpa [tDIn] using go
  | true => simpa [tDNotIn] using go
theorem DicR.put {a : Addr} {kvs : List (D × D)} {t : Bool} {k v : V} {dk dv : D} (h : DicR K H M a kvs t) (hm : M a) (rk : Rep K H M k dk) (rv : Rep K H M v dv) (ok : kOk t dk = true) (hl : kvs.length < 16777216) :
    ∃ o', isOwn o' ∧ DPut H a k v (upd H a o') ∧ DicR K (upd H a o') M a (dPut kvs dk dv) t := by
  obtain ⟨o, e, ho⟩ := h.obj
  unfold kOk at ok
  cases q : kcd dk with
  | none => rw [q] at ok; cases ok
  | some c =>
    rw [q] at ok
    cases h with
    | @k kv h1 h2 h3 =>
      cases c with
      | inr ks => cases ok
      | inl k' =>
        have e := kcd_inl q
        subst e
        rw [rep_key rk]
        have hl' : kv.length < sizeLine := by
          have e1 := h3.length
          rw [List.length_map, List.length_map] at e1
          rw [sizeLine_eq, e1]; exact hl
        obtain ⟨p1, p2⟩ := put_keys keyD .inl kcd_keyD (fun _ _ z => Sum.inl.inj z) k' rv h2 h3
        exact ⟨.dK _, True.intro, DPut.k h1 hl', .k upd_same p1 (p2.to (Step.wr h1 True.intro hm))⟩
    | @t kv h1 h2 h3 =>
      cases c with
      | inl k => cases ok
      | inr ks =>
        have e := kcd_inr q
        subst e
        have hk : KTok = false := by simpa using ok
        obtain ⟨b, eb, hb⟩ := rep_tkey hk rk
        subst eb
        have hl' : kv.length < sizeLine := by
          have e1 := h3.length
          rw [List.length_map, List.length_map] at e1
          rw [sizeLine_eq, e1]; exact hl
        obtain ⟨p1, p2⟩ := put_keys (fun ks => D.tup (ks.map keyD)) .inr kcd_tup (fun _ _ z => Sum.inr.inj z) ks rv h2 h3
        exact ⟨.dT _, True.intro, DPut.t h1 hb hl', .t upd_same p1 (p2.to (Step.wr h1 True.intro hm))⟩
/-- x[k] = v -/
def sDPutS (i : Nat) (f g : Ex) : Es := fun ρ => (g ρ).thenS fun v => (dcAt i v.2).thenS fun _ => (f v.2).thenS fun k => (dcAt i k.2).thenS fun d => if kOk d.2 k.1 = true ∧ d.1.length < 16777216 then .next (k.2.set i (.dc (dPut d.1 k.1 v.1) d.2)) else .bad
theorem t_sDPutS {i : Nat} {f g : Ex} {E : Ends} (h : tOfS K τ Wi (sDPutS i f g) E σ H) : sDPut (tVar i) (tOf K τ Wi f) (tOf K τ Wi g) E σ H := by
  obtain ⟨F, M, ρ, S, h⟩ := h
  unfold sDPutS at h
  refine ⟨F, M, ρ, S, ?_⟩
  cases q1 : g ρ with
  | bad => rw [q1] at h; exact h
  | exc c p => rw [q1] at h; exact h
  | ok v =>
    rw [q1, R.thenS_ok] at h
    refine fun vv H1 M1 r1 S1 st1 => ?_
    cases q0 : dcAt i v.2 with
    | bad => rw [q0] at h; exact h.elim
    | exc c p => exact absurd q0 dcAt_noexc
    | ok d0 =>
      obtain ⟨_, a, hv, _, _⟩ := S1.dcAt q0
      rw [q0, R.thenS_ok] at h
      refine ⟨.ref a, hv, F, M1, v.2, S1, ?_⟩
      cases q2 : f v.2 with
      | bad => rw [q2] at h; exact h
      | exc c p => rw [q2] at h; exact h
      | ok k =>
        rw [q2, R.thenS_ok] at h
        refine fun vk H2 M2 r2 S2 st2 => ?_
        cases q3 : dcAt i k.2 with
        | bad => rw [q3] at h; exact h.elim
        | exc c p => exact absurd q3 dcAt_noexc
        | ok d =>
          rw [q3, R.thenS_ok] at h
          obtain ⟨hρ, a', hv', m, dr⟩ := S2.dcAt q3
          rw [hv] at hv'
          cases hv'
          by_cases ok : kOk d.2 k.1 = true ∧ d.1.length < 16777216
          · rw [if_pos ok] at h
            obtain ⟨o', ho, g1, new⟩ := dr.put m r2 (r1.to st2) ok.1 ok.2
            obtain ⟨S3, st3⟩ := S2.wrDic hv hρ ho new
            exact ⟨a, _, rfl, g1, h σ _ M2 S3 ((st1.trans st2).trans st3)⟩
          · rw [if_neg ok] at h; exact h.elim
/-- a name gets a new owned thing -/
theorem SR.setNew {i : Nat} {p : Addr} {o' : HO} {x' : Sl} (S : SR K τ F H M σ ρ) (hp : H p = none) (ho : isOwn o') (new : SlR K F (upd H p o') (fun b => M b ∨ b = p) (some (some (.ref p))) (some x')) (kids : ∀ c, x'.owns (upd H p o') p c → c = p) :
    SR K τ F (upd H p o') (fun b => M b ∨ b = p) (σ.set i (some (.ref p))) (ρ.set i x') ∧ Step H M (upd H p o') (fun b => M b ∨ b = p) := by
  have n : New H (upd H p o') := New.upd hp
  have st : Step H M (upd H p o') (fun b => M b ∨ b = p) := fun a o f => ⟨n a o f.1, f.2.1, fun m z => z.elim (f.2.2 m) fun z => by
    have q := f.1
    rw [z, hp] at q
    cases q⟩
  have ne : ∀ a, M a → a ≠ p := fun a m z => S.dom a m (z ▸ hp)
  have sl := fun j => S.slSame (M' := fun b => M b ∨ b = p) st (fun a q => .inl (S.sub a q)) j fun a q => ⟨upd_ne (o := o') (ne a (S.ownM q)), .inl (.inl (S.ownM q))⟩
  refine ⟨⟨S.io, fun a q => .inl (S.sub a q), fun a q => ?_, S.keep.trans st, fun a h1 h2 => (upd_ne (ne a (S.sub a h1))).trans (S.rest a h1 h2), by rw [List.length_set, List.length_set]; exact S.len, fun j => ?_, fun j k c hj hk => ?_, ⟨S.tab.1.ext n, fun a q => ?_⟩⟩, st⟩
  · by_cases hb : a = p
    · rw [hb, upd_same]; exact fun z => nomatch z
    · rw [upd_ne hb]; exact S.dom a (q.resolve_right hb)
  · by_cases hj : j = i
    · subst hj
      by_cases hl : j < ρ.length
      · rw [List.getElem?_set_self hl, List.getElem?_set_self (by rw [← S.len]; exact hl)]
        exact new
      · rw [List.getElem?_eq_none (l := ρ.set j x') (by rw [List.length_set]; omega)]
        exact .nil
    · rw [List.getElem?_set_ne (Ne.symm hj), List.getElem?_set_ne (Ne.symm hj)]
      exact (sl j).1
  · have back : ∀ {j : Nat}, OwnAt (upd H p o') (σ.set i (some (.ref p))) (ρ.set i x') j c → (j ≠ i ∧ OwnAt H σ ρ j c) ∨ (j = i ∧ c = p) := fun {j} h => by
      rcases h.set2 with ⟨hj, h⟩ | ⟨hj, b, e, h⟩
      · exact .inl ⟨hj, (sl j).2 c h⟩
      · cases e
        exact .inr ⟨hj, kids c h⟩
    rcases back hj with ⟨j1, o1⟩ | ⟨j1, o1⟩ <;> rcases back hk with ⟨k1, o2⟩ | ⟨k1, o2⟩
    · exact S.apart j k c o1 o2
    · exact absurd o2 (ne c (S.ownM o1))
    · exact absurd o1 (ne c (S.ownM o2))
    · rw [j1, k1]
  · rcases q with q | q
    · exact (S.tab.new S.dom n).2 a q
    · rw [q]; exact ⟨_, upd_same, ho⟩
/-- x = {} -/
def sDNew (i : Nat) (t : Bool) : Es := fun ρ => if noBo ρ i = true then .next (ρ.set i (.dc [] t)) else .bad
theorem t_sDNew {i : Nat} {t : Bool} {E : Ends} (h : tOfS K τ Wi (sDNew i t) E σ H) : tAsg (if t = true then tDNewT else tDNewK) (gName i) E σ H := by
  obtain ⟨F, M, ρ, S, h⟩ := h
  unfold sDNew at h
  by_cases hb : noBo ρ i = true
  · rw [if_pos hb] at h
    cases t with
    | false =>
      intro p hp
      obtain ⟨S', st⟩ := S.setNew (i := i) (o' := .dK []) (x' := .dc [] false) hp True.intro (.dc (.inr rfl) (fun z => S.dom p (S.sub p z) hp) (.k (kv := []) upd_same rfl .nil)) fun c q => q
      exact h _ _ _ S' st
    | true =>
      intro p hp
      obtain ⟨S', st⟩ := S.setNew (i := i) (o' := .dT []) (x' := .dc [] true) hp True.intro (.dc (.inr rfl) (fun z => S.dom p (S.sub p z) hp) (.t (kv := []) upd_same rfl .nil)) fun c q => q
      exact h _ _ _ S' st
  · rw [if_neg hb] at h; exact h.elim
/-- a new thing is owned, by no slot yet -/
theorem SR.own1 {p : Addr} {o' : HO} (S : SR K τ F H M σ ρ) (hp : H p = none) (ho : isOwn o') :
    SR K τ F (upd H p o') (fun b => M b ∨ b = p) σ ρ ∧ Step H M (upd H p o') (fun b => M b ∨ b = p) ∧ (∀ j a, OwnAt (upd H p o') σ ρ j a → OwnAt H σ ρ j a) ∧ ∀ j, ¬ OwnAt (upd H p o') σ ρ j p := by
  have n : New H (upd H p o') := New.upd hp
  have st : Step H M (upd H p o') (fun b => M b ∨ b = p) := fun a o f => ⟨n a o f.1, f.2.1, fun m z => z.elim (f.2.2 m) fun z => by
    have q := f.1
    rw [z, hp] at q
    cases q⟩
  have ne : ∀ a, M a → a ≠ p := fun a m z => S.dom a m (z ▸ hp)
  have sl := fun j => S.slSame (M' := fun b => M b ∨ b = p) st (fun a q => .inl (S.sub a q)) j fun a q => ⟨upd_ne (o := o') (ne a (S.ownM q)), .inl (.inl (S.ownM q))⟩
  refine ⟨⟨S.io, fun a q => .inl (S.sub a q), fun a q => ?_, S.keep.trans st, fun a h1 h2 => (upd_ne (ne a (S.sub a h1))).trans (S.rest a h1 h2), S.len, fun j => (sl j).1, fun j k c hj hk => S.apart j k c ((sl j).2 c hj) ((sl k).2 c hk), ⟨S.tab.1.ext n, fun a q => ?_⟩⟩, st, fun j => (sl j).2, fun j h => ne p (S.ownM ((sl j).2 p h)) rfl⟩
  · by_cases hb : a = p
    · rw [hb, upd_same]; exact fun z => nomatch z
    · rw [upd_ne hb]; exact S.dom a (q.resolve_right hb)
  · rcases q with q | q
    · exact (S.tab.new S.dom n).2 a q
    · rw [q]; exact ⟨_, upd_same, ho⟩
/-- a slot gets an owned thing that no slot has -/
theorem SR.setTop {i : Nat} {p : Addr} {x' : Sl} (S : SR K τ F H M σ ρ) (new : SlR K F H M (some (some (.ref p))) (some x')) (kids : ∀ c, x'.owns H p c → ∀ j, ¬ OwnAt H σ ρ j c) : SR K τ F H M (σ.set i (some (.ref p))) (ρ.set i x') := by
  refine ⟨S.io, S.sub, S.dom, S.keep, S.rest, by rw [List.length_set, List.length_set]; exact S.len, fun j => ?_, fun j k c hj hk => ?_, S.tab⟩
  · by_cases hj : j = i
    · subst hj
      by_cases hl : j < ρ.length
      · rw [List.getElem?_set_self hl, List.getElem?_set_self (by rw [← S.len]; exact hl)]
        exact new
      · rw [List.getElem?_eq_none (l := ρ.set j x') (by rw [List.length_set]; omega)]
        exact .nil
    · rw [List.getElem?_set_ne (Ne.symm hj), List.getElem?_set_ne (Ne.symm hj)]
      exact S.sl j
  · have back : ∀ {j : Nat}, OwnAt H (σ.set i (some (.ref p))) (ρ.set i x') j c → (j ≠ i ∧ OwnAt H σ ρ j c) ∨ (j = i ∧ ∀ j, ¬ OwnAt H σ ρ j c) := fun {j} h => by
      rcases h.set2 with ⟨hj, h⟩ | ⟨hj, b, e, h⟩
      · exact .inl ⟨hj, h⟩
      · cases e
        exact .inr ⟨hj, kids c h⟩
    rcases back hj with ⟨j1, o1⟩ | ⟨j1, o1⟩ <;> rcases back hk with ⟨k1, o2⟩ | ⟨k1, o2⟩
    · exact S.apart j k c o1 o2
    · exact absurd o1 (o2 j)
    · exact absurd o2 (o1 k)
    · rw [j1, k1]
/-- an owned thing that no slot has is written -/
theorem SR.pokeO {p : Addr} {o o' : HO} (S : SR K τ F H M σ ρ) (hm : M p) (hn : ¬ F.M0 p) (e : H p = some o) (ho : isOwn o) (ho' : isOwn o') (no : ∀ j, ¬ OwnAt H σ ρ j p) :
    SR K τ F (upd H p o') M σ ρ ∧ Step H M (upd H p o') M ∧ ∀ j b, OwnAt (upd H p o') σ ρ j b → OwnAt H σ ρ j b := by
  have st : Step H M (upd H p o') M := Step.wr e ho hm
  have sl := fun j => S.slSame (M' := M) st S.sub j fun b q => ⟨upd_ne (o := o') fun e => no j (e ▸ q), .inl (S.ownM q)⟩
  refine ⟨⟨S.io, S.sub, fun b q => ?_, S.keep.trans st, fun b h1 h2 => ?_, S.len, fun j => (sl j).1, fun i j b h1 h2 => S.apart i j b ((sl i).2 b h1) ((sl j).2 b h2), S.tab.wr e ho ho'⟩, st, fun j b h => (sl j).2 b h⟩
  · by_cases hb : b = p
    · rw [hb, upd_same]; exact fun z => nomatch z
    · rw [upd_ne hb]; exact S.dom b q
  · have hb : b ≠ p := fun e => hn (by rw [← e]; exact h1)
    rw [upd_ne hb]; exact S.rest b h1 h2
/-- the pairs of a display -/
def prsE : List (Ex × Ex) → Store → R (List (D × D) × Store)
  | [], ρ => .ok ([], ρ)
  | p :: r, ρ => (p.1 ρ).bind fun x => (p.2 x.2).bind fun y => (prsE r y.2).bind fun z => .ok ((x.1, y.1) :: z.1, z.2)
theorem t_prsE : ∀ (fs : List (Ex × Ex)) {F : Fr} {H : Hp} {M : Addr → Prop} {ρ : Store} {Q : List (V × V) → Hp → Prop}, SR K τ F H M σ ρ → (match prsE fs ρ with
      | .bad => False
      | .exc c p => Wi F c p
      | .ok (ds, ρ') => ∀ ps H' M', RepL K H' M' (ps.map (·.1)) (ds.map (·.1)) → RepL K H' M' (ps.map (·.2)) (ds.map (·.2)) → SR K τ F H' M' σ ρ' → Step H M H' M' → Q ps H') →
    tPairs (fs.map fun p => (tOf K τ Wi p.1, tOf K τ Wi p.2)) σ H Q
  | [], F, H, M, ρ, Q, S, h => h [] H M .nil .nil S Step.refl
  | p :: r, F, H, M, ρ, Q, S, h => by
    unfold prsE at h
    refine ⟨F, M, ρ, S, ?_⟩
    cases q1 : p.1 ρ with
    | bad => rw [q1] at h; exact h
    | exc c p => rw [q1] at h; exact h
    | ok x =>
      rw [q1, R.bind_ok] at h
      refine fun v H1 M1 r1 S1 st1 => ⟨F, M1, x.2, S1, ?_⟩
      cases q2 : p.2 x.2 with
      | bad => rw [q2] at h; exact h
      | exc c p => rw [q2] at h; exact h
      | ok y =>
        rw [q2, R.bind_ok] at h
        refine fun w H2 M2 r2 S2 st2 => t_prsE r S2 ?_
        cases q3 : prsE r y.2 with
        | bad => rw [q3] at h; exact h
        | exc c p => rw [q3] at h; exact h
        | ok z =>
          rw [q3] at h
          exact fun ps H3 M3 r3 r4 S3 st3 => h ((v, w) :: ps) H3 M3 (.cons (r1.to (st2.trans st3)) r3) (.cons (r2.to st3) r4) S3 ((st1.trans st2).trans st3)
def dMerge (ds : List (D × D)) : List (D × D) := ds.foldl (fun acc p => dPut acc p.1 p.2) []
theorem merge_keys : ∀ {more : List (Key × V)} {md kvs : List (D × D)} {kv : List (Key × V)}, md.map (·.1) = more.map (fun p => keyD p.1) → RepL K H M (more.map (·.2)) (md.map (·.2)) →
    kvs.map (·.1) = kv.map (fun p => keyD p.1) → RepL K H M (kv.map (·.2)) (kvs.map (·.2)) →
      (md.foldl (fun acc p => dPut acc p.1 p.2) kvs).map (·.1) = (mergeK kv more).map (fun p => keyD p.1) ∧ RepL K H M ((mergeK kv more).map (·.2)) ((md.foldl (fun acc p => dPut acc p.1 p.2) kvs).map (·.2))
  | [], [], _, _, _, _, h1, h2 => ⟨h1, h2⟩
  | [], _ :: _, _, _, h, _, _, _ => by cases h
  | _ :: _, [], _, _, h, _, _, _ => by cases h
  | p :: more, q :: md, kvs, kv, h, r, h1, h2 => by
    have e1 : q.1 = keyD p.1 := (List.cons.inj h).1
    cases r with
    | cons r1 r2 =>
      obtain ⟨i1, i2⟩ := put_keys keyD .inl kcd_keyD (fun _ _ z => Sum.inl.inj z) p.1 r1 h1 h2
      rw [← e1] at i1 i2
      have z := merge_keys (List.cons.inj h).2 r2 i1 i2
      exact z
theorem keys_of : ∀ {ps : List (V × V)} {ds : List (D × D)}, RepL K H M (ps.map (·.1)) (ds.map (·.1)) → (ds.all fun p => kOk false p.1) = true → ∃ kv : List (Key × V), ps = kv.map (fun p => (kV p.1, p.2)) ∧ ds.map (·.1) = kv.map (fun p => keyD p.1)
  | [], [], _, _ => ⟨[], rfl, rfl⟩
  | [], _ :: _, r, _ => by cases r
  | _ :: _, [], r, _ => by cases r
  | p :: ps, d :: ds, r, h => by
    rw [List.all_cons, Bool.and_eq_true] at h
    cases r with
    | cons r1 r2 =>
      obtain ⟨kv, e1, e2⟩ := keys_of r2 h.2
      obtain ⟨k, ek⟩ : ∃ k, d.1 = keyD k := by
        have h1 := h.1
        unfold kOk at h1
        cases q : kcd d.1 with
        | none => rw [q] at h1; cases h1
        | some c =>
          rw [q] at h1
          cases c with
          | inl k => exact ⟨k, kcd_inl q⟩
          | inr ks => cases h1
      have r1' : Rep K H M p.1 d.1 := r1
      rw [ek] at r1'
      exact ⟨(k, p.2) :: kv, by rw [e1]; exact congrArg (fun z => z :: _) (Prod.ext (rep_key r1') rfl), by rw [List.map_cons, List.map_cons, e2, ek]⟩
/-- x = {k: v, ..}, keys ints and texts -/
def sDDisp (i : Nat) (fs : List (Ex × Ex)) : Es := fun ρ => (noX (prsE fs ρ)).thenS fun x => if noBo x.2 i = true ∧ (x.1.all fun p => kOk false p.1) = true ∧ x.1.length ≤ 15 then .next (x.2.set i (.dc (dMerge x.1) false)) else .bad
theorem t_sDDisp {i : Nat} {fs : List (Ex × Ex)} {E : Ends} (h : tOfS K τ Wi (sDDisp i fs) E σ H) : tAsg (tDisp (fs.map fun p => (tOf K τ Wi0 p.1, tOf K τ Wi0 p.2))) (gName i) E σ H := by
  obtain ⟨F, M, ρ, S, h⟩ := h
  unfold sDDisp at h
  intro p hp
  have hn : ¬ F.M0 p := fun z => S.dom p (S.sub p z) hp
  obtain ⟨S1, st1, b1, no1⟩ := S.own1 (o' := .dK []) hp True.intro
  refine t_prsE fs (S1.inner (.inr rfl) no1) ?_
  cases q : prsE fs ρ with
  | bad => rw [q] at h; exact h
  | exc c p => rw [q] at h; exact h.elim
  | ok x =>
    rw [q, noX_ok, R.thenS_ok] at h
    by_cases hc : noBo x.2 i = true ∧ (x.1.all fun p => kOk false p.1) = true ∧ x.1.length ≤ 15
    · rw [if_pos hc] at h
      intro ps H2 M2 r1 r2 S2 st2
      obtain ⟨S3, m3, e3, no3⟩ := S1.outer hn S2
      have e3 : H2 p = some (.dK []) := e3.trans upd_same
      obtain ⟨kv, ek1, ek2⟩ := keys_of r1 hc.2.1
      have r2' : RepL K H2 M2 (kv.map (·.2)) (x.1.map (·.2)) := by
        rw [ek1, List.map_map] at r2
        exact r2
      obtain ⟨S4, st4, b4⟩ := S3.pokeO (o' := .dK (mergeK [] kv)) m3 hn e3 True.intro True.intro no3
      obtain ⟨g1, g2⟩ := merge_keys (kvs := []) (kv := []) ek2 r2' rfl .nil
      refine ⟨e3, kv, ek1, ?_, ?_⟩
      · have e1 := congrArg List.length ek2
        rw [List.length_map, List.length_map] at e1
        rw [← e1]; exact hc.2.2
      · exact h _ _ _ (S4.setTop (.dc m3 hn (.k upd_same g1 (g2.to st4))) fun c q j z => by
          have e : c = p := q
          rw [e] at z
          exact no3 j (b4 j p z)) ((st1.trans st2).trans st4)
    · rw [if_neg hc] at h; exact h.elim
end
end MP

namespace MP
open PySem PySem.Spec PyProof.Rows L2

/-! ### dicts compiled -/
section
variable {τ : LTab} {X : Cx} {E : CE} {W : WX} {c : Cp}
/-- a name of a dict of plain values: its slot -/
def dcN (E : CE) (x : Str) : Option Nat := match E.xc.lookup x with
  | some 0 => slot E x
  | some 1 => slot E x
  | _ => none
theorem dcN_ok (g : Good τ E X W) {x : Str} {i : Nat} {p : Pos} (h : dcN E x = some i) : PE X (.Name x p) (tVar i) := by
  have h : slot E x = some i := by
    unfold dcN at h
    split at h
    · exact h
    · exact h
    · cases h
  obtain ⟨h1, h2, h3, h4⟩ := g.slot h
  exact pe_var h1 h2 h3 h4
theorem noSl_of {e : Expr} (h : isSlice e = false) : NoSl e := fun o i => by
  cases e <;> first | rfl | cases h
def zM (c : Cp) (E : CE) : Expr → Option Em
  | .Subscript (.Name x _) k _ => if isSlice k = true then none else (dcN E x).bind fun i => (mE c E k).map fun f => pl (mDGet i f)
  | .Compare k [.In] [.Name x _] _ => (dcN E x).bind fun i => (mE c E k).map fun f => pl (mDIn false i f)
  | .Compare k [.NotIn] [.Name x _] _ => (dcN E x).bind fun i => (mE c E k).map fun f => pl (mDIn true i f)
  | _ => none
theorem Good.u1 (g : Good τ E X W) : X.A.units + 1 < cLine := by have := g.un; omega
theorem zM_ok (ok : CpOk c) (g : Good τ E X W) {e : Expr} {f : Em} (h : zM c E e = some f) : PE X e (tOfM X.K τ (WiOf X.mg X.K τ W) f) := by
  unfold zM at h
  split at h
  · rename_i x p k pos
    by_cases hs : isSlice k = true
    · rw [if_pos hs] at h; cases h
    · rw [if_neg hs] at h
      cases q1 : dcN E x with
      | none => rw [q1] at h; cases h
      | some i =>
        rw [q1, Option.bind_some] at h
        cases q2 : mE c E k with
        | none => rw [q2] at h; cases h
        | some f1 =>
          rw [q2] at h; cases h
          exact pe_imp (pe_dget g.u1 (dcN_ok g q1) (mE_ok ok g q2) (noSl_of (by simpa using hs))) fun σ H Q q => t_mDGet (t_pl q)
  · rename_i k x p pos
    cases q1 : dcN E x with
    | none => rw [q1] at h; cases h
    | some i =>
      rw [q1, Option.bind_some] at h
      cases q2 : mE c E k with
      | none => rw [q2] at h; cases h
      | some f1 =>
        rw [q2] at h; cases h
        exact pe_imp (pe_cmp (pc_din g.u1 (mE_ok ok g q2) (dcN_ok g q1)) (behind_of rfl)) fun σ H Q q => t_mDIn (n := false) (t_pl q)
  · rename_i k x p pos
    cases q1 : dcN E x with
    | none => rw [q1] at h; cases h
    | some i =>
      rw [q1, Option.bind_some] at h
      cases q2 : mE c E k with
      | none => rw [q2] at h; cases h
      | some f1 =>
        rw [q2] at h; cases h
        exact pe_imp (pe_cmp (pc_dnotin g.u1 (mE_ok ok g q2) (dcN_ok g q1)) (behind_of rfl)) fun σ H Q q => t_mDIn (n := true) (t_pl q)
  · cases h
def zT (c : Cp) (E : CE) : Expr → Option Et
  | .Compare k [.In] [.Name x _] _ => (dcN E x).bind fun i => (mE c E k).map fun f => tbl (mDIn false i f)
  | .Compare k [.NotIn] [.Name x _] _ => (dcN E x).bind fun i => (mE c E k).map fun f => tbl (mDIn true i f)
  | _ => none
theorem zT_ok (ok : CpOk c) (g : Good τ E X W) {e : Expr} {f : Et} (h : zT c E e = some f) : PT X e (tOfT X.K τ (WiOf X.mg X.K τ W) f) := by
  unfold zT at h
  split at h
  · rename_i k x p pos
    cases q1 : dcN E x with
    | none => rw [q1] at h; cases h
    | some i =>
      rw [q1, Option.bind_some] at h
      cases q2 : mE c E k with
      | none => rw [q2] at h; cases h
      | some f1 =>
        rw [q2] at h; cases h
        exact pt_imp (pt_cmp (pc_din g.u1 (mE_ok ok g q2) (dcN_ok g q1)) (behind_of rfl)) fun σ H Q q => t_mDIn (n := false) (t_tbl q)
  · rename_i k x p pos
    cases q1 : dcN E x with
    | none => rw [q1] at h; cases h
    | some i =>
      rw [q1, Option.bind_some] at h
      cases q2 : mE c E k with
      | none => rw [q2] at h; cases h
      | some f1 =>
        rw [q2] at h; cases h
        exact pt_imp (pt_cmp (pc_dnotin g.u1 (mE_ok ok g q2) (dcN_ok g q1)) (behind_of rfl)) fun σ H Q q => t_mDIn (n := true) (t_tbl q)
  · cases h
/-- a display's pairs -/
def mPrs (c : Cp) (E : CE) : List (Option Expr) → List Expr → Option (List (Ex × Ex))
  | [], [] => some []
  | some k :: ks, v :: vs => (mE c E k).bind fun f => (mE c E v).bind fun g => (mPrs c E ks vs).map fun r => (f, g) :: r
  | _, _ => none
theorem mPrs_ok (ok : CpOk c) (g : Good τ E X W) {pos : Pos} : ∀ {ks : List (Option Expr)} {vs : List Expr} {fs : List (Ex × Ex)}, mPrs c E ks vs = some fs →
    PPs X pos ks vs (fs.map fun p => (tOf X.K τ (WiOf X.mg X.K τ W) p.1, tOf X.K τ (WiOf X.mg X.K τ W) p.2)) ∧ ks.all (·.isSome) = true ∧ ks.length = vs.length
  | [], [], fs, h => by cases h; exact ⟨pps_nil, rfl, rfl⟩
  | [], _ :: _, fs, h => by cases h
  | none :: _, _, fs, h => by cases h
  | some k :: ks, [], fs, h => by cases h
  | some k :: ks, v :: vs, fs, h => by
    unfold mPrs at h
    cases q1 : mE c E k with
    | none => rw [q1] at h; cases h
    | some f1 =>
      rw [q1, Option.bind_some] at h
      cases q2 : mE c E v with
      | none => rw [q2] at h; cases h
      | some f2 =>
        rw [q2, Option.bind_some] at h
        cases q3 : mPrs c E ks vs with
        | none => rw [q3] at h; cases h
        | some r =>
          rw [q3] at h; cases h
          obtain ⟨h1, h2, h3⟩ := mPrs_ok ok g (pos := pos) q3
          exact ⟨pps_cons (mE_ok ok g q1) (mE_ok ok g q2) h1, by rw [List.all_cons, h2]; rfl, by rw [List.length_cons, List.length_cons, h3]⟩
def zS (c : Cp) (E : CE) : Stmt → Option Es
  | .Assign [.Name x _] (.Dict [] [] _) _ => (tgSlot E x).bind fun i => match E.xc.lookup x with
    | some 0 => some (sDNew i false)
    | some 1 => some (sDNew i true)
    | _ => none
  | .Assign [.Name x _] (.Dict (k :: ks) vs _) _ => (tgSlot E x).bind fun i => if E.xc.lookup x = some 0 ∧ ks.length ≤ 14 then (mPrs c E (k :: ks) vs).map fun fs => sDDisp i fs else none
  | .Assign [.Subscript (.Name x _) k _] e _ => (dcN E x).bind fun i => (mE c E k).bind fun f => (mE c E e).map fun g => sDPutS i f g
  | _ => none
theorem tPairs_wi {Wi Wi' : WiT} {K : PySem.W.Frag} (hw : ∀ F c p, Wi F c p → Wi' F c p) : ∀ (fs : List (Ex × Ex)) {σ : L2.St} {H : Hp} {Q : List (V × V) → Hp → Prop}, tPairs (fs.map fun p => (tOf K τ Wi p.1, tOf K τ Wi p.2)) σ H Q → tPairs (fs.map fun p => (tOf K τ Wi' p.1, tOf K τ Wi' p.2)) σ H Q
  | [], σ, H, Q, h => h
  | p :: fs, σ, H, Q, h => by
    obtain ⟨F, M, ρ, S, h⟩ := tOf_wi hw h
    refine ⟨F, M, ρ, S, ?_⟩
    cases q : p.1 ρ with
    | bad => rw [q] at h; exact h
    | exc c d => rw [q] at h; exact h
    | ok x =>
      rw [q] at h
      refine fun v H1 M1 r1 S1 st1 => ?_
      obtain ⟨F2, M2, ρ2, S2, h2⟩ := tOf_wi hw (h v H1 M1 r1 S1 st1)
      refine ⟨F2, M2, ρ2, S2, ?_⟩
      cases q2 : p.2 ρ2 with
      | bad => rw [q2] at h2; exact h2
      | exc c d => rw [q2] at h2; exact h2
      | ok y =>
        rw [q2] at h2
        exact fun w H3 M3 r3 S3 st3 => tPairs_wi hw fs (h2 w H3 M3 r3 S3 st3)
theorem zS_ok (ok : CpOk c) (g : Good τ E X W) {st : Stmt} {f : Es} (h : zS c E st = some f) : PS X st (tOfS X.K τ (WiOf X.mg X.K τ W) f) := by
  unfold zS at h
  split at h
  · rename_i x px dp pos
    cases q1 : tgSlot E x with
    | none => rw [q1] at h; cases h
    | some i =>
      rw [q1, Option.bind_some] at h
      obtain ⟨hi, hL, hf⟩ := g.tg q1
      split at h
      · cases h
        exact ps_imp (ps_set g.nd hi hL pe_dnewK (swap_none rfl) hf) fun D σ H q => t_sDNew (t := false) q
      · cases h
        exact ps_imp (ps_set g.nd hi hL pe_dnewT (swap_none rfl) hf) fun D σ H q => t_sDNew (t := true) q
      · cases h
  · rename_i x px k ks vs dp pos
    cases q1 : tgSlot E x with
    | none => rw [q1] at h; cases h
    | some i =>
      rw [q1, Option.bind_some] at h
      obtain ⟨hi, hL, hf⟩ := g.tg q1
      by_cases hc : E.xc.lookup x = some 0 ∧ ks.length ≤ 14
      · rw [if_pos hc] at h
        cases q2 : mPrs c E (k :: ks) vs with
        | none => rw [q2] at h; cases h
        | some fs =>
          rw [q2] at h; cases h
          obtain ⟨h1, h2, h3⟩ := mPrs_ok ok g (pos := dp) q2
          exact ps_imp (ps_set g.nd hi hL (pe_disp h1 h2 h3 (fun z => nomatch z) (by rw [List.length_cons]; omega)) (swap_none rfl) hf) fun D σ H q => fun p hp => tPairs_wi (fun _ _ _ z => z.elim) fs (t_sDDisp q p hp)
      · rw [if_neg hc] at h; cases h
  · rename_i x px k sp e pos
    cases q1 : dcN E x with
    | none => rw [q1] at h; cases h
    | some i =>
      rw [q1, Option.bind_some] at h
      cases q2 : mE c E k with
      | none => rw [q2] at h; cases h
      | some f1 =>
        rw [q2, Option.bind_some] at h
        cases q3 : mE c E e with
        | none => rw [q3] at h; cases h
        | some f2 =>
          rw [q3] at h; cases h
          exact ps_imp (ps_dput g.u1 (dcN_ok g q1) (mE_ok ok g q2) (mE_ok ok g q3) (show swapsWithSole [.Subscript (.Name x px) k sp] e pos.line X.env = pure false from sole_ff (fun _ _ z => by cases z))) fun D σ H => t_sDPutS
  · cases h
end
end MP

namespace MP
open PySem PySem.Spec PyProof.Rows L2

/-! ### d.setdefault(k, x) -/
def rSetD : V → List V → Hp → VK → Prop := fun x vs H Q => ∃ (a : Addr) (y z : V), x = .ref a ∧ vs = [y, z] ∧
  ((∃ (kvs : List (Key × V)) (k : Key), H a = some (.dK kvs) ∧ y = kV k ∧ kvs.length < sizeLine ∧ (∀ v, valV kvs k = some v → Q v H) ∧ (valV kvs k = none → Q z (upd H a (.dK (putK kvs k z))))) ∨
    ∃ (kvs : List (List Key × V)) (k : List Key) (b : Addr), H a = some (.dT kvs) ∧ y = .ref b ∧ H b = some (.tup (k.map kV)) ∧ kvs.length < sizeLine ∧ (∀ v, valV kvs k = some v → Q v H) ∧ (valV kvs k = none → Q z (upd H a (.dT (putK kvs k z)))))
theorem mt_setd {X : Cx} (hu : X.A.units + 1 < cLine) : MtR X "dict.setdefault" rSetD := by
  intro pins s σ H x vs v us Q I rx rv h
  obtain ⟨a, y, z, rfl, rfl, h⟩ := h
  cases rx
  cases rv with
  | @cons _ u0 _ _ ry rv =>
    cases rv with
    | @cons _ u1 _ _ rz rv =>
      cases rv
      rcases h with ⟨kvs, k, e, ey, hl, h1, h2⟩ | ⟨kvs, k, b, e, ey, eb, hl, h1, h2⟩
      · subst ey
        obtain ⟨zz, hd, vs0, rel, dd⟩ := dk_of I.hok e
        have hz : vs0.length ≤ sizeLine := by rw [← rel.length]; exact zz
        refine call_meetsIn PySem.F.slot_dict_setdefault dd.typeIs PySem.F.entry_dict_setdefault (PySem.F.args_dict_setdefault_3 _ _ _) (kt_meets_setdefault (mixKind X.prog X.w) a (kV_is ry) hd _) ⟨vs0, dd, hz, fun u hu => ?_, fun hn h' dd' hs => ?_⟩
        · have rr := rel.val k
          rw [hu] at rr
          cases hv : valV kvs k with
          | none => rw [hv] at rr; exact False.elim rr
          | some x =>
            rw [hv] at rr
            exact (⟨x, H, I.tok _, rr, h1 x hv⟩ : EP X pins σ Q u _)
        · have rr := rel.val k
          rw [hn] at rr
          cases hv : valV kvs k with
          | some x => rw [hv] at rr; exact False.elim rr
          | none =>
            have hl2 : (putK kvs k z).length ≤ sizeLine := by have := length_putK kvs k z; omega
            exact (⟨z, _, d_write (t' := s.toks + 1) I (by rw [e]; exact True.intro) hs (let ⟨q, _, _, hq, _⟩ := dd'; ⟨q, hq⟩) (dk_new hl2 hd (rel.put k rz) dd'), rz, h2 hv⟩ : EP X pins σ Q _ _)
      · subst ey
        cases (show u0 = Value.ref b from ry)
        obtain ⟨zz, hd, xs, rel, dd⟩ := dt_of I.hok e
        have hz : xs.length ≤ sizeLine := by rw [← Paired.length rel]; exact zz
        refine PySem.call_setdefault_heap (hsz := hz) (tupleKind_room_in1 hu) (key_of I.hok eb) hd dd (fun p hp => ?_) fun hn h' dd' hs => ?_
        · have rr := rel.val k
          rw [hp] at rr
          cases hv : valV kvs k with
          | none => rw [hv] at rr; exact False.elim rr
          | some x =>
            rw [hv] at rr
            exact (⟨x, H, I.tok _, rr, h1 x hv⟩ : EP X pins σ Q _ _)
        · have rr := rel.val k
          rw [hn] at rr
          cases hv : valV kvs k with
          | some x => rw [hv] at rr; exact False.elim rr
          | none =>
            have hl2 : (putK kvs k z).length ≤ sizeLine := by have := length_putK kvs k z; omega
            obtain ⟨q, es, ep, hq, g2, g3, g4, _, g5⟩ := dd'
            refine (⟨z, _, d_write (ob := .dT (putK kvs k z)) I (by rw [e]; exact True.intro) hs ⟨q, hq⟩ ⟨hl2, hd, _, (rel.put k eb rz).keeps fun c ys ec => ?_, q, es, ep, hq, g2, g3, g4, g5⟩, rz, h2 hv⟩ : EP X pins σ Q _ _)
            rw [upd_ne (ne_of ec e (fun z => nomatch z))]
            exact ec

/-! ### dicts of lists -/
/-- where a key stands -/
def kIx : List D → D → Option Nat
  | [], _ => none
  | p :: ks, d => if kEq p d = true then some 0 else (kIx ks d).map (· + 1)
theorem ix_keys {κ : Type} [DecidableEq κ] (f : κ → D) (g : κ → Key ⊕ List Key) (hf : ∀ k, kcd (f k) = some (g k)) (hg : ∀ a b, g a = g b → a = b) (k : κ) :
    ∀ {kv : List (κ × V)} {bs : List Addr}, kv.map (·.2) = bs.map V.ref → match kIx (kv.map (fun p => f p.1)) (f k) with
      | none => valV kv k = none
      | some n => ∃ b, bs[n]? = some b ∧ valV kv k = some (.ref b)
  | [], bs, _ => by simp [kIx, valV]
  | p :: kv, [], h => by cases h
  | p :: kv, b :: bs, h => by
    have h1 := (List.cons.inj h).1
    have h2 := (List.cons.inj h).2
    rw [List.map_cons]
    unfold kIx
    by_cases e : p.1 = k
    · have e2 : kEq (f p.1) (f k) = true := by unfold kEq; rw [e]; exact decide_eq_true rfl
      rw [if_pos e2]
      have h1' : p.2 = V.ref b := h1
      exact ⟨b, rfl, by rw [valV_pos e, h1']⟩
    · have e2 : ¬ kEq (f p.1) (f k) = true := fun z => e (by
        unfold kEq at z
        have z := of_decide_eq_true z
        rw [hf, hf] at z
        exact hg _ _ (Option.some.inj z))
      rw [if_neg e2]
      have ih := ix_keys f g hf hg k h2
      cases q : kIx (kv.map (fun p => f p.1)) (f k) with
      | none => rw [q] at ih; show valV (p :: kv) k = none; rw [valV_neg e]; exact ih
      | some n => rw [q] at ih; obtain ⟨b', e1, e2⟩ := ih; exact ⟨b', by simpa using e1, by rw [valV_neg e]; exact e2⟩
section
variable {K : PySem.W.Frag} {τ : LTab} {Wi Wi' : WiT} {F : Fr} {H H' : Hp} {M M' M0 : Addr → Prop} {σ : L2.St} {ρ : Store} {a : Addr} {bs : List Addr} {rows : List (List D)} {sh : Shp}
theorem NeR.get {ks : List D} {t : Bool} {v : V} {d : D} (N : NeR K M0 H M a (.dic ks t) rows bs) (rk : Rep K H M v d) (ok : kOk t d = true) : ∃ o, DGet H a v o ∧ match kIx ks d with
    | none => o = none
    | some n => ∃ b, bs[n]? = some b ∧ o = some (.ref b) := by
  unfold kOk at ok
  cases q : kcd d with
  | none => rw [q] at ok; cases ok
  | some c =>
    rw [q] at ok
    have out := N.out
    cases out with
    | @dK kv _ e1 e2 e3 =>
      cases c with
      | inr ks => cases ok
      | inl k =>
        have e := kcd_inl q
        subst e
        rw [rep_key rk]
        subst e2
        exact ⟨_, DGet.k e1, ix_keys keyD .inl kcd_keyD (fun _ _ z => Sum.inl.inj z) k e3⟩
    | @dT kv _ e1 e2 e3 =>
      cases c with
      | inl k => cases ok
      | inr ks' =>
        have e := kcd_inr q
        subst e
        have hk : KTok = false := by simpa using ok
        obtain ⟨b, eb, hb⟩ := rep_tkey hk rk
        subst eb
        subst e2
        exact ⟨_, DGet.t e1 hb, ix_keys (fun ks => D.tup (ks.map keyD)) .inr kcd_tup (fun _ _ z => Sum.inr.inj z) ks' e3⟩
theorem NeR.setd {ks : List D} {t : Bool} {v : V} {d : D} {p : Addr} {Q : VK} (N : NeR K M0 H M a (.dic ks t) rows bs) (rk : Rep K H M v d) (ok : kOk t d = true) (hl : ks.length < 16777216)
    (h1 : ∀ n b, kIx ks d = some n → bs[n]? = some b → Q (.ref b) H)
    (h2 : kIx ks d = none → ∀ o', isOwn o' → (∀ (H' : Hp) (M' : Addr → Prop), H' a = some o' → OutR K H' M' a (bs ++ [p]) (.dic (ks ++ [d]) t)) → Q (.ref p) (upd H a o')) : rSetD (.ref a) [v, .ref p] H Q := by
  unfold kOk at ok
  cases q : kcd d with
  | none => rw [q] at ok; cases ok
  | some c =>
    rw [q] at ok
    have out := N.out
    cases out with
    | @dK kv _ e1 e2 e3 =>
      cases c with
      | inr ks => cases ok
      | inl k =>
        have e := kcd_inl q
        subst e
        rw [rep_key rk]
        have hk := ix_keys keyD .inl kcd_keyD (fun _ _ z => Sum.inl.inj z) k e3
        rw [← e2] at hk
        have hl' : kv.length < sizeLine := by rw [e2, List.length_map] at hl; rw [sizeLine_eq]; exact hl
        refine ⟨a, _, _, rfl, rfl, .inl ⟨kv, k, e1, rfl, hl', fun w hw => ?_, fun hn => ?_⟩⟩
        · cases qi : kIx ks (keyD k) with
          | none => rw [qi] at hk; rw [hk] at hw; cases hw
          | some n => rw [qi] at hk; obtain ⟨b, g1, g2⟩ := hk; rw [g2] at hw; cases hw; exact h1 n b qi g1
        · cases qi : kIx ks (keyD k) with
          | none =>
            refine h2 qi _ True.intro fun H' M' e => .dK e ?_ ?_
            · rw [putK_new _ hn, List.map_append, e2]; rfl
            · rw [putK_new _ hn, List.map_append, e3, List.map_append]; rfl
          | some n => rw [qi] at hk; obtain ⟨b, g1, g2⟩ := hk; rw [g2] at hn; cases hn
    | @dT kv _ e1 e2 e3 =>
      cases c with
      | inl k => cases ok
      | inr ks' =>
        have e := kcd_inr q
        subst e
        have hkt : KTok = false := by simpa using ok
        obtain ⟨b0, eb, hb⟩ := rep_tkey hkt rk
        subst eb
        have hk := ix_keys (fun ks => D.tup (ks.map keyD)) .inr kcd_tup (fun _ _ z => Sum.inr.inj z) ks' e3
        rw [← e2] at hk
        have hl' : kv.length < sizeLine := by rw [e2, List.length_map] at hl; rw [sizeLine_eq]; exact hl
        refine ⟨a, _, _, rfl, rfl, .inr ⟨kv, ks', b0, e1, rfl, hb, hl', fun w hw => ?_, fun hn => ?_⟩⟩
        · cases qi : kIx ks (.tup (ks'.map keyD)) with
          | none => rw [qi] at hk; rw [hk] at hw; cases hw
          | some n => rw [qi] at hk; obtain ⟨b, g1, g2⟩ := hk; rw [g2] at hw; cases hw; exact h1 n b qi g1
        · cases qi : kIx ks (.tup (ks'.map keyD)) with
          | none =>
            refine h2 qi _ True.intro fun H' M' e => .dT e ?_ ?_
            · rw [putK_new _ hn, List.map_append, e2]; rfl
            · rw [putK_new _ hn, List.map_append, e3, List.map_append]; rfl
          | some n => rw [qi] at hk; obtain ⟨b, g1, g2⟩ := hk; rw [g2] at hn; cases hn
/-! ### a slot's things lent out -/
theorem SR.innerP {P : Addr → Prop} (S : SR K τ F H M σ ρ) (hm : ∀ a, P a → M a) (no : ∀ j a, P a → ¬ OwnAt H σ ρ j a) : SR K τ ⟨fun a => F.M0 a ∨ P a, M, H, F.io⟩ H M σ ρ := by
  refine ⟨fun a q => .inl (S.io a q), fun a q => q.elim (S.sub a) (hm a), S.dom, Step.refl, fun _ _ _ => rfl, S.len, fun j => ?_, S.apart, S.tab⟩
  have s := S.sl j
  generalize hx : σ[j]? = sx at s ⊢
  generalize hy : ρ[j]? = sy at s ⊢
  cases s with
  | nil => exact .nil
  | no => exact .no
  | va h => exact .va h
  | sc h => exact .sc h
  | fn h => exact .fn h
  | ow h1 h2 h3 => exact .ow h1 (fun q => q.elim h2 fun e => no j _ e (.top hx hy rfl)) h3
  | dc h1 h2 h3 => exact .dc h1 (fun q => q.elim h2 fun e => no j _ e (.top hx hy rfl)) h3
  | ne h => exact .ne (h.m0 fun b hb n z => z.elim n fun e => no j b e ⟨_, _, hx, hy, h.owns.mpr hb⟩)
  | bo h1 h2 h3 => exact .bo (.inl h1) h2 h3
theorem SR.outerP {P : Addr → Prop} {H0 : Hp} {σ0 : L2.St} {ρ0 : Store} {M00 : Addr → Prop} (S0 : SR K τ F H0 M00 σ0 ρ0) (hD : ∀ a, P a → ¬ F.M0 a) (S : SR K τ ⟨fun a => F.M0 a ∨ P a, M00, H0, F.io⟩ H M σ ρ) :
    SR K τ F H M σ ρ ∧ ∀ a, P a → M a ∧ H a = H0 a ∧ ∀ j, ¬ OwnAt H σ ρ j a := by
  refine ⟨⟨S0.io, fun a q => S.sub a (.inl q), S.dom, S0.keep.trans S.keep, fun a h1 h2 => (S.rest a (.inl h1) h2).trans (S0.rest a h1 h2), S.len, fun j => ?_, S.apart, S.tab⟩, fun a pa => ⟨S.sub a (.inr pa), S.rest a (.inr pa) (fun z => hD a pa (S0.io a z)), fun j h => hD a pa (S0.io a (S.ownF h (.inr pa)))⟩⟩
  have s := S.sl j
  generalize hx : σ[j]? = sx at s ⊢
  generalize hy : ρ[j]? = sy at s ⊢
  cases s with
  | nil => exact .nil
  | no => exact .no
  | va h => exact .va h
  | sc h => exact .sc h
  | fn h => exact .fn h
  | ow h1 h2 h3 => exact .ow h1 (fun q => h2 (.inl q)) h3
  | dc h1 h2 h3 => exact .dc h1 (fun q => h2 (.inl q)) h3
  | bo h1 h2 h3 => exact .bo (S0.io _ h2) h2 h3
  | ne h => exact .ne (h.m0 fun b hb n z => n (.inl z))
theorem SR.lendS {i : Nat} {b : Addr} {x : Sl} (S : SR K τ F H M σ ρ) (hσ : σ[i]? = some (some (.ref b))) (hρ : ρ[i]? = some x) : SR K τ ⟨fun a => F.M0 a ∨ x.owns H b a, M, H, F.io⟩ H M σ (ρ.set i .no) := by
  have own : ∀ c, x.owns H b c → OwnAt H σ ρ i c := fun c hc => ⟨b, _, hσ, hρ, hc⟩
  refine (S.drop1 i).innerP (P := fun a => x.owns H b a) (fun a h => S.ownM (own a h)) fun j c hc h => ?_
  rcases h.set1 with ⟨hj, h⟩ | ⟨_, _, _, h⟩
  · exact hj (S.apart j i c h (own c hc))
  · exact h.elim
theorem SR.lendBack {i : Nat} {b : Addr} {x : Sl} {H0 : Hp} {M00 : Addr → Prop} {ρ0 : Store} (S0 : SR K τ F H0 M00 σ ρ0) (hσ : σ[i]? = some (some (.ref b))) (hρ : ρ0[i]? = some x) (hb : ∀ a, x.owns H0 b a → ¬ F.M0 a) (st : Step H0 M00 H M)
    (S : SR K τ ⟨fun a => F.M0 a ∨ x.owns H0 b a, M00, H0, F.io⟩ H M σ ρ) : SR K τ F H M σ (ρ.set i x) := by
  obtain ⟨S', facts⟩ := S0.outerP (P := fun a => x.owns H0 b a) hb S
  have s0 := S0.sl i
  rw [hσ, hρ] at s0
  obtain ⟨new, ob⟩ := s0.same (H' := H) (M' := M) st (fun a b' s e1 e2 q => by
    cases e1
    cases e2
    exact ⟨(facts a q).2.1, .inl (facts a q).1⟩) (fun a q => S'.sub a q)
  have e := S'.setTop (i := i) (p := b) (x' := x) new fun c hc j => (facts c (ob c b x rfl rfl hc)).2.2 j
  have hi : i < σ.length := (List.getElem?_eq_some_iff.mp hσ).1
  have eσ : σ.set i (some (.ref b)) = σ := by
    have := (List.getElem?_eq_some_iff.mp hσ).2
    rw [← this]; exact List.set_getElem_self hi
  rwa [eσ] at e
/-! ### a row is written -/
theorem RowsR.at {n : Nat} {b : Addr} (R : RowsR K H M M0 bs rows) (hb : bs[n]? = some b) : ∃ vs ds, rows[n]? = some ds ∧ M b ∧ ¬ M0 b ∧ H b = some (.lst vs) ∧ RepL K H M vs ds := by
  induction R generalizing n with
  | nil => simp at hb
  | cons h1 h2 h3 h4 _ ih =>
    cases n with
    | zero => simp at hb; subst hb; exact ⟨_, _, rfl, h1, h2, h3, h4⟩
    | succ n => obtain ⟨vs, ds, e, q⟩ := ih (n := n) (by simpa using hb); exact ⟨vs, ds, by simpa using e, q⟩
theorem RowsR.set {n : Nat} {b : Addr} {vs : List V} {ds : List D} (R : RowsR K H M M0 bs rows) (hb : bs[n]? = some b) (nd : bs.Nodup) (st : Step H M (upd H b (.lst vs)) M) (r : RepL K H M vs ds) : RowsR K (upd H b (.lst vs)) M M0 bs (rows.set n ds) := by
  induction R generalizing n with
  | nil => exact .nil
  | @cons c vs' ds' bs rs h1 h2 h3 h4 h5 ih =>
    obtain ⟨n1, n2⟩ := List.nodup_cons.mp nd
    cases n with
    | zero =>
      simp at hb
      subst hb
      refine .cons h1 h2 upd_same (r.to st) (h5.to st fun b' hb' m => ⟨upd_ne fun e => n1 (e ▸ hb'), m⟩)
    | succ n =>
      have hb' : bs[n]? = some b := by simpa using hb
      have hc : c ≠ b := fun e => n1 (e ▸ List.mem_of_getElem? hb')
      exact .cons h1 h2 (by rw [upd_ne hc]; exact h3) (h4.to st) (ih hb' n2)
theorem NeR.setRow {n : Nat} {b : Addr} {vs : List V} {ds : List D} (N : NeR K M0 H M a sh rows bs) (hb : bs[n]? = some b) (r : RepL K H M vs ds) : NeR K M0 (upd H b (.lst vs)) M a sh (rows.set n ds) bs ∧ Step H M (upd H b (.lst vs)) M := by
  obtain ⟨vs0, ds0, _, m, n0, e, _⟩ := N.rows.at hb
  have st : Step H M (upd H b (.lst vs)) M := Step.wr e True.intro m
  have nd := List.nodup_cons.mp N.nd
  have ha : a ≠ b := fun z => nd.1 (z ▸ List.mem_of_getElem? hb)
  exact ⟨⟨N.m, N.n, N.out.to st (upd_ne ha), N.rows.set hb nd.2 st r, N.nd⟩, st⟩
theorem SR.wrRow {i n : Nat} {b : Addr} {vs : List V} {ds : List D} (S : SR K τ F H M σ ρ) (hσ : σ[i]? = some (some (.ref a))) (hρ : ρ[i]? = some (.ne sh rows)) (N : NeR K F.M0 H M a sh rows bs) (hb : bs[n]? = some b) (r : RepL K H M vs ds) :
    SR K τ F (upd H b (.lst vs)) M σ (ρ.set i (.ne sh (rows.set n ds))) ∧ Step H M (upd H b (.lst vs)) M := by
  obtain ⟨N', st⟩ := N.setRow hb r
  obtain ⟨vs0, ds0, _, m, n0, e, _⟩ := N.rows.at hb
  have own : OwnAt H σ ρ i b := ⟨a, _, hσ, hρ, N.owns.mpr (.inr (List.mem_of_getElem? hb))⟩
  exact ⟨S.chg hσ hρ st (fun _ q => q) (fun c q => by
      by_cases hc : c = b
      · rw [hc, upd_same]; exact fun z => nomatch z
      · rw [upd_ne hc]; exact S.dom c q) (fun c h1 h2 => upd_ne fun z => n0 (z ▸ h1)) (fun j hj c q => upd_ne fun z => hj (S.apart j i b (z ▸ q) own)) (.ne N')
    (fun c q => .inl ⟨a, _, hσ, hρ, N.owns.mpr (N'.owns.mp q)⟩) (S.tab.wr e True.intro True.intro), st⟩
/-- a key is laid, with a list that nobody holds -/
theorem SR.addRow {i : Nat} {p : Addr} {vs : List V} {ds : List D} {ks : List D} {t : Bool} {d : D} {o o' : HO} (S : SR K τ F H M σ ρ) (hσ : σ[i]? = some (some (.ref a))) (hρ : ρ[i]? = some (.ne (.dic ks t) rows)) (N : NeR K F.M0 H M a (.dic ks t) rows bs)
    (m : M p) (n : ¬ F.M0 p) (e : H p = some (.lst vs)) (r : RepL K H M vs ds) (no : ∀ j, ¬ OwnAt H σ ρ j p) (ea : H a = some o) (ho : isOwn o) (ho' : isOwn o')
    (out : ∀ (H' : Hp) (M' : Addr → Prop), H' a = some o' → OutR K H' M' a (bs ++ [p]) (.dic (ks ++ [d]) t)) :
    SR K τ F (upd H a o') M σ (ρ.set i (.ne (.dic (ks ++ [d]) t) (rows ++ [ds]))) ∧ NeR K F.M0 (upd H a o') M a (.dic (ks ++ [d]) t) (rows ++ [ds]) (bs ++ [p]) ∧ Step H M (upd H a o') M := by
  have st : Step H M (upd H a o') M := Step.wr ea ho N.m
  have own : ∀ c, c = a ∨ c ∈ bs → OwnAt H σ ρ i c := fun c hc => ⟨a, _, hσ, hρ, N.owns.mpr hc⟩
  have pa : p ≠ a := fun z => no i (own p (.inl z))
  have pb : p ∉ bs := fun z => no i (own p (.inr z))
  have nd := List.nodup_cons.mp N.nd
  have app : ∀ {bs : List Addr} {rows : List (List D)}, RowsR K (upd H a o') M F.M0 bs rows → RowsR K (upd H a o') M F.M0 (bs ++ [p]) (rows ++ [ds]) := fun {bs rows} R => by
    induction R with
    | nil => exact .cons m n (by rw [upd_ne pa]; exact e) (r.to st) .nil
    | cons h1 h2 h3 h4 _ ih => exact .cons h1 h2 h3 h4 ih
  have N' : NeR K F.M0 (upd H a o') M a (.dic (ks ++ [d]) t) (rows ++ [ds]) (bs ++ [p]) := by
    refine ⟨N.m, N.n, out _ _ upd_same, app (N.rows.to st fun b hb mb => ⟨upd_ne fun z => nd.1 (z ▸ hb), mb⟩), ?_⟩
    rw [List.nodup_cons]
    refine ⟨fun z => ?_, ?_⟩
    · rcases List.mem_append.mp z with z | z
      · exact nd.1 z
      · exact pa (List.mem_singleton.mp z).symm
    · rw [List.nodup_append]
      exact ⟨nd.2, by simp, fun x hx y hy e => pb (by rw [List.mem_singleton.mp hy] at e; rw [← e]; exact hx)⟩
  refine ⟨S.chg hσ hρ st (fun _ q => q) (fun c q => by
      by_cases hc : c = a
      · rw [hc, upd_same]; intro z; cases z
      · rw [upd_ne hc]; exact S.dom c q) (fun c h1 h2 => upd_ne fun z => N.n (z ▸ h1)) (fun j hj c q => upd_ne fun z => hj (S.apart j i a (z ▸ q) (own a (.inl rfl)))) (.ne N')
    (fun c q => ?_) (S.tab.wr ea ho ho'), N', st⟩
  rcases N'.owns.mp q with q | q
  · exact .inl (own c (.inl q))
  · rcases List.mem_append.mp q with q | q
    · exact .inl (own c (.inr q))
    · rw [List.mem_singleton.mp q]; exact .inr no
/-! ### reading the slot -/
def neAt (i : Nat) (ρ : Store) : R (Shp × List (List D)) := match ρ[i]? with
  | some (.ne sh rows) => .ok (sh, rows)
  | _ => .bad
theorem neAt_noexc {i : Nat} {c : Str} {p : D} : neAt i ρ ≠ .exc c p := by
  intro e
  unfold neAt at e
  split at e <;> cases e
theorem SR.neAt {i : Nat} {d : Shp × List (List D)} (S : SR K τ F H M σ ρ) (q : MP.neAt i ρ = .ok d) : ρ[i]? = some (.ne d.1 d.2) ∧ ∃ a bs, σ[i]? = some (some (.ref a)) ∧ NeR K F.M0 H M a d.1 d.2 bs := by
  unfold MP.neAt at q
  split at q
  · rename_i sh rows e
    cases q
    have s := S.sl i
    rw [e] at s
    refine ⟨e, ?_⟩
    generalize hx : σ[i]? = sx at s
    cases s with
    | ne h => exact ⟨_, _, rfl, h⟩
  · cases q
/-- x = {}, of lists -/
def sNeNew (i : Nat) (t : Bool) : Es := fun ρ => if noBo ρ i = true then .next (ρ.set i (.ne (.dic [] t) [])) else .bad
theorem t_sNeNew {i : Nat} {t : Bool} {E : Ends} (h : tOfS K τ Wi (sNeNew i t) E σ H) : tAsg (if t = true then tDNewT else tDNewK) (gName i) E σ H := by
  obtain ⟨F, M, ρ, S, h⟩ := h
  unfold sNeNew at h
  by_cases hb : noBo ρ i = true
  · rw [if_pos hb] at h
    have own : ∀ {o' : HO} {p c : Addr}, (o' = .dK [] ∨ o' = .dT []) → (Sl.ne (.dic [] t) []).owns (upd H p o') p c → c = p := fun {o' p c} eo q => by
      have q : c = p ∨ c ∈ kids (upd H p o') p := q
      rcases q with q | q
      · exact q
      · unfold kids at q
        rw [upd_same] at q
        rcases eo with e | e <;> subst e <;> simp at q
    cases t with
    | false =>
      intro p hp
      obtain ⟨S', st⟩ := S.setNew (i := i) (o' := .dK []) (x' := .ne (.dic [] false) []) hp True.intro (.ne (bs := []) ⟨.inr rfl, fun z => S.dom p (S.sub p z) hp, .dK (kv := []) upd_same rfl rfl, .nil, by simp⟩) fun c q => own (.inl rfl) q
      exact h _ _ _ S' st
    | true =>
      intro p hp
      obtain ⟨S', st⟩ := S.setNew (i := i) (o' := .dT []) (x' := .ne (.dic [] true) []) hp True.intro (.ne (bs := []) ⟨.inr rfl, fun z => S.dom p (S.sub p z) hp, .dT (kv := []) upd_same rfl rfl, .nil, by simp⟩) fun c q => own (.inr rfl) q
      exact h _ _ _ S' st
  · rw [if_neg hb] at h; exact h.elim
/-- one more at the end of the row n, the slot lent out while it is told -/
def appRow (i n : Nat) (sh : Shp) (rows : List (List D)) (fe : Ex) (ρ : Store) : FR := (noX (fe (ρ.set i .no))).thenS fun e => match rows[n]? with
  | some row => if row.length < 16777216 then .next (e.2.set i (.ne sh (rows.set n (row ++ [e.1])))) else .bad
  | none => .bad
theorem t_appRow {i n : Nat} {b : Addr} {fe : Ex} {E : Ends} {H0 : Hp} {M00 : Addr → Prop} (S : SR K τ F H M σ ρ) (st0 : Step H0 M00 H M) (hσ : σ[i]? = some (some (.ref a))) (hρ : ρ[i]? = some (.ne sh rows)) (N : NeR K F.M0 H M a sh rows bs) (hb : bs[n]? = some b)
    (h : match appRow i n sh rows fe ρ with
      | .bad => False
      | .exc c p => Wi F c p
      | .next ρ' => ∀ σ' H' M', SR K τ F H' M' σ' ρ' → Step H0 M00 H' M' → E.nx σ' H'
      | .brk ρ' => ∀ σ' H' M', SR K τ F H' M' σ' ρ' → Step H0 M00 H' M' → E.bk σ' H'
      | .cnt ρ' => ∀ σ' H' M', SR K τ F H' M' σ' ρ' → Step H0 M00 H' M' → E.ct σ' H'
      | .ret d ρ' => ∀ v σ' H' M', Rep K H' M' v d → SR K τ F H' M' σ' ρ' → Step H0 M00 H' M' → E.rt v H') :
    tyV K "list" (.ref b) H ∧ tCons (tOf K τ Wi' fe) tNil σ H fun xs H2 => rAppend (.ref b) xs H2 fun _ H' => E.nx σ H' := by
  obtain ⟨vs0, ds0, er, m, n0, eb, rv0⟩ := N.rows.at hb
  refine ⟨tyList eb, ?_⟩
  have SL := S.lendS hσ hρ
  unfold appRow at h
  refine ⟨_, M, ρ.set i .no, SL, ?_⟩
  cases q : fe (ρ.set i .no) with
  | bad => rw [q] at h; exact h.elim
  | exc c p => rw [q] at h; exact h.elim
  | ok x =>
    rw [q, noX_ok, R.thenS_ok, er] at h
    have h : (match (if ds0.length < 16777216 then FR.next (x.2.set i (.ne sh (rows.set n (ds0 ++ [x.1])))) else .bad) with
      | .bad => False
      | .exc c p => Wi F c p
      | .next ρ' => ∀ σ' H' M', SR K τ F H' M' σ' ρ' → Step H0 M00 H' M' → E.nx σ' H'
      | .brk ρ' => ∀ σ' H' M', SR K τ F H' M' σ' ρ' → Step H0 M00 H' M' → E.bk σ' H'
      | .cnt ρ' => ∀ σ' H' M', SR K τ F H' M' σ' ρ' → Step H0 M00 H' M' → E.ct σ' H'
      | .ret d ρ' => ∀ v σ' H' M', Rep K H' M' v d → SR K τ F H' M' σ' ρ' → Step H0 M00 H' M' → E.rt v H') := h
    by_cases hl : ds0.length < 16777216
    · rw [if_pos hl] at h
      intro v H1 M1 r1 S1 st1
      have S2 := S.lendBack hσ hρ (fun c hc => (N.mem c (N.owns.mp hc)).2) st1 S1
      have hx : i < x.2.length := by
        have := S1.len
        rw [this]; exact (List.getElem?_eq_some_iff.mp hσ).1
      have s2 := S2.sl i
      have facts := (S.outerP (P := fun c => (Sl.ne sh rows).owns H a c) (fun c hc => (N.mem c (N.owns.mp hc)).2) S1).2
      have N2 : NeR K F.M0 H1 M1 a sh rows bs := N.to st1 fun c hc => ⟨(facts c (N.owns.mpr hc)).2.1, (facts c (N.owns.mpr hc)).1⟩
      obtain ⟨S3, st3⟩ := S2.wrRow (vs := vs0 ++ [v]) hσ (List.getElem?_set_self hx) N2 hb ((rv0.to st1).append (.cons r1 .nil))
      rw [List.set_set] at S3
      refine ⟨b, vs0, v, rfl, rfl, ?_, by rw [rv0.length, sizeLine_eq]; exact hl, h σ _ M1 S3 ((st0.trans st1).trans st3)⟩
      exact (facts b (N.owns.mpr (.inr (List.mem_of_getElem? hb)))).2.1.trans eb
    · rw [if_neg hl] at h; exact h.elim
def neD (i : Nat) (ρ : Store) : R (List D × Bool × List (List D)) := match ρ[i]? with
  | some (.ne (.dic ks t) rows) => .ok (ks, t, rows)
  | _ => .bad
theorem neD_noexc {i : Nat} {c : Str} {p : D} : neD i ρ ≠ .exc c p := by
  intro e
  unfold neD at e
  split at e <;> cases e
theorem SR.neD {i : Nat} {d : List D × Bool × List (List D)} (S : SR K τ F H M σ ρ) (q : MP.neD i ρ = .ok d) : ρ[i]? = some (.ne (.dic d.1 d.2.1) d.2.2) ∧ ∃ a bs, σ[i]? = some (some (.ref a)) ∧ NeR K F.M0 H M a (.dic d.1 d.2.1) d.2.2 bs := by
  unfold MP.neD at q
  split at q
  · rename_i ks t rows e
    cases q
    have s := S.sl i
    rw [e] at s
    refine ⟨e, ?_⟩
    generalize hx : σ[i]? = sx at s
    cases s with
    | ne h => exact ⟨_, _, rfl, h⟩
  · cases q
/-- x.setdefault(k, []).append(e) -/
def sSda (i : Nat) (fk fe : Ex) : Es := fun ρ => (neD i ρ).thenS fun _ => (fk ρ).thenS fun k => (neD i k.2).thenS fun s => if kOk s.2.1 k.1 = true ∧ s.1.length < 16777216 then (match kIx s.1 k.1 with
      | some n => appRow i n (.dic s.1 s.2.1) s.2.2 fe k.2
      | none => appRow i s.1.length (.dic (s.1 ++ [k.1]) s.2.1) (s.2.2 ++ [[]]) fe (k.2.set i (.ne (.dic (s.1 ++ [k.1]) s.2.1) (s.2.2 ++ [[]])))) else .bad
theorem NeR.tyD {ks : List D} {t : Bool} (N : NeR K M0 H M a (.dic ks t) rows bs) : tyV K "dict" (.ref a) H := by
  cases N.out with
  | dK e _ _ => exact .inr (.inr (.inl ⟨rfl, .inl ⟨_, e⟩⟩))
  | dT e _ _ => exact .inr (.inr (.inl ⟨rfl, .inr ⟨_, e⟩⟩))
theorem NeR.keysLen {ks : List D} {t : Bool} (N : NeR K M0 H M a (.dic ks t) rows bs) : ks.length = bs.length := by
  cases N.out with
  | dK _ e2 e3 => have := congrArg List.length e3; rw [List.length_map, List.length_map] at this; rw [e2, List.length_map, this]
  | dT _ e2 e3 => have := congrArg List.length e3; rw [List.length_map, List.length_map] at this; rw [e2, List.length_map, this]
theorem NeR.obj {ks : List D} {t : Bool} (N : NeR K M0 H M a (.dic ks t) rows bs) : ∃ o, H a = some o ∧ isOwn o := by
  cases N.out with
  | dK e _ _ => exact ⟨_, e, True.intro⟩
  | dT e _ _ => exact ⟨_, e, True.intro⟩
theorem t_sSda {i : Nat} {fk fe : Ex} {E : Ends} (h : tOfS K τ Wi (sSda i fk fe) E σ H) :
    tDrop (tBM K "list" rAppend (tBM K "dict" rSetD (tVar i) (tCons (tOf K τ Wi fk) (tCons (tLst tNil) tNil))) (tCons (tOf K τ Wi' fe) tNil)) E σ H := by
  obtain ⟨F, M, ρ, S, h⟩ := h
  unfold sSda at h
  cases q0 : neD i ρ with
  | bad => rw [q0] at h; exact h.elim
  | exc c p => exact absurd q0 neD_noexc
  | ok d0 =>
    obtain ⟨hρ0, a, bs0, hσ, N0⟩ := S.neD q0
    rw [q0, R.thenS_ok] at h
    refine ⟨.ref a, hσ, N0.tyD, F, M, ρ, S, ?_⟩
    cases q1 : fk ρ with
    | bad => rw [q1] at h; exact h
    | exc c p => rw [q1] at h; exact h
    | ok k =>
      rw [q1, R.thenS_ok] at h
      refine fun vk H1 M1 r1 S1 st1 => ⟨Nat.zero_le _, fun p hp => ?_⟩
      cases q2 : neD i k.2 with
      | bad => rw [q2] at h; exact h.elim
      | exc c p => exact absurd q2 neD_noexc
      | ok d =>
        obtain ⟨ks, t, rows⟩ := d
        obtain ⟨hρ1, a1, bs, hσ1, N1⟩ := S1.neD q2
        rw [hσ] at hσ1
        cases hσ1
        rw [q2, R.thenS_ok] at h
        by_cases hc : kOk t k.1 = true ∧ ks.length < 16777216
        · rw [if_pos hc] at h
          obtain ⟨S2, st2, b2, no2⟩ := S1.own1 (o' := .lst []) hp True.intro
          have at2 : ∀ c, c = a ∨ c ∈ bs → c ≠ p := fun c hc z => S1.dom c (N1.mem c hc).1 (z ▸ hp)
          have N2 : NeR K F.M0 (upd H1 p (.lst [])) (fun b => M1 b ∨ b = p) a (.dic ks t) rows bs := N1.to st2 fun c hc => ⟨upd_ne (at2 c hc), .inl (N1.mem c hc).1⟩
          show rSetD (.ref a) [vk, .ref p] (upd H1 p (.lst [])) (fun x H1 => tyV K "list" x H1 ∧ tCons (tOf K τ Wi' fe) tNil σ H1 fun xs H2 => rAppend x xs H2 fun _ H' => E.nx σ H')
          refine N2.setd (r1.to st2) hc.1 hc.2 (fun n b hn hb => ?_) fun hn o' ho' out => ?_
          · rw [hn] at h
            obtain ⟨ty, g⟩ := t_appRow (Wi' := Wi') S2 (st1.trans st2) hσ hρ1 N2 hb h
            exact ⟨ty, g⟩
          · rw [hn] at h
            obtain ⟨o, ea, ho⟩ := N2.obj
            obtain ⟨S3, N3, st3⟩ := S2.addRow (ds := []) hσ hρ1 N2 (.inr rfl) (fun z => S1.dom p (S1.sub p z) hp) upd_same .nil no2 ea ho ho' out
            have hi : i < k.2.length := (List.getElem?_eq_some_iff.mp hρ1).1
            have hb : (bs ++ [p])[ks.length]? = some p := by rw [N1.keysLen]; simp
            exact t_appRow (Wi' := Wi') S3 ((st1.trans st2).trans st3) hσ (List.getElem?_set_self hi) N3 hb h
        · rw [if_neg hc] at h; exact h.elim
/-- x[k].append(e), x a dict of lists -/
def sNeApp (i : Nat) (fk fe : Ex) : Es := fun ρ => (neD i ρ).thenS fun _ => (fk ρ).thenS fun k => (neD i k.2).thenS fun s => if kOk s.2.1 k.1 = true then (match kIx s.1 k.1 with
      | some n => appRow i n (.dic s.1 s.2.1) s.2.2 fe k.2
      | none => .bad) else .bad
theorem t_sNeApp {i : Nat} {fk fe : Ex} {E : Ends} (h : tOfS K τ Wi (sNeApp i fk fe) E σ H) :
    tDrop (tBM K "list" rAppend (tDGet (tVar i) (tOf K τ Wi fk)) (tCons (tOf K τ Wi' fe) tNil)) E σ H := by
  obtain ⟨F, M, ρ, S, h⟩ := h
  unfold sNeApp at h
  cases q0 : neD i ρ with
  | bad => rw [q0] at h; exact h.elim
  | exc c p => exact absurd q0 neD_noexc
  | ok d0 =>
    obtain ⟨hρ0, a, bs0, hσ, N0⟩ := S.neD q0
    rw [q0, R.thenS_ok] at h
    refine ⟨.ref a, hσ, F, M, ρ, S, ?_⟩
    cases q1 : fk ρ with
    | bad => rw [q1] at h; exact h
    | exc c p => rw [q1] at h; exact h
    | ok k =>
      rw [q1, R.thenS_ok] at h
      refine fun vk H1 M1 r1 S1 st1 => ?_
      cases q2 : neD i k.2 with
      | bad => rw [q2] at h; exact h.elim
      | exc c p => exact absurd q2 neD_noexc
      | ok d =>
        obtain ⟨ks, t, rows⟩ := d
        obtain ⟨hρ1, a1, bs, hσ1, N1⟩ := S1.neD q2
        rw [hσ] at hσ1
        cases hσ1
        rw [q2, R.thenS_ok] at h
        by_cases hc : kOk t k.1 = true
        · rw [if_pos hc] at h
          obtain ⟨o, g, hk⟩ := N1.get r1 hc
          cases qi : kIx ks k.1 with
          | none => rw [qi] at h; exact h.elim
          | some n =>
            rw [qi] at h hk
            obtain ⟨b, hb, eo⟩ := hk
            subst eo
            refine ⟨a, .ref b, rfl, g, ?_⟩
            exact t_appRow (Wi' := Wi') S1 st1 hσ hρ1 N1 hb h
        · rw [if_neg hc] at h; exact h.elim
/-- a key that is told as a value -/
def keyI : D → Bool
  | .int _ => true
  | .tup ds => ds.all fun d => match d with
    | .int _ => true
    | _ => false
  | _ => false
def kysAt (i : Nat) (ρ : Store) : R (List D) := match ρ[i]? with
  | some (.dc kvs _) => if (kvs.all fun p => keyI p.1) = true then .ok (kvs.map (·.1)) else .bad
  | some (.ne (.dic ks _) _) => if ks.all keyI = true then .ok ks else .bad
  | _ => .bad
theorem kysAt_noexc {i : Nat} {c : Str} {p : D} : kysAt i ρ ≠ .exc c p := by
  intro e
  unfold kysAt at e
  split at e
  · split at e <;> cases e
  · split at e <;> cases e
  · cases e
theorem repL_keyD : ∀ (ks : List Key), (ks.map keyD).all keyI = true → RepL K H M (ks.map kV) (ks.map keyD)
  | [], _ => .nil
  | .inl i :: ks, h => .cons (.int i) (repL_keyD ks (by rw [List.map_cons, List.all_cons, Bool.and_eq_true] at h; exact h.2))
  | .inr x :: ks, h => by rw [List.map_cons, List.all_cons, Bool.and_eq_true] at h; cases h.1
theorem repL_ints' : ∀ (ks : List Key), ((ks.map keyD).all fun d => match d with
    | .int _ => true
    | _ => false) = true → RepL K H M (ks.map kV) (ks.map keyD)
  | [], _ => .nil
  | .inl i :: ks, h => .cons (.int i) (repL_ints' ks (by rw [List.map_cons, List.all_cons, Bool.and_eq_true] at h; exact h.2))
  | .inr x :: ks, h => by rw [List.map_cons, List.all_cons, Bool.and_eq_true] at h; cases h.1
theorem repL_keyT : ∀ {kvs : List (List Key × V)} {bs : List Addr}, IsKeys H kvs bs → (kvs.map fun p => D.tup (p.1.map keyD)).all keyI = true → RepL K H M (bs.map V.ref) (kvs.map fun p => D.tup (p.1.map keyD))
  | _, _, .nil, _ => .nil
  | _, _, .cons h t, q => by
    rw [List.map_cons, List.all_cons, Bool.and_eq_true] at q
    exact .cons (.tup (.inl ⟨h, id, fun z => z.elim⟩) (repL_ints' _ q.1)) (repL_keyT t q.2)
/-- what stands there: a dict with these keys -/
theorem SR.kys {i : Nat} {ks : List D} (S : SR K τ F H M σ ρ) (q : kysAt i ρ = .ok ks) : ∃ a, σ[i]? = some (some (.ref a)) ∧
    ((∃ kv : List (Key × V), H a = some (.dK kv) ∧ ks = kv.map (fun p => keyD p.1) ∧ RepL K H M (kv.map fun p => kV p.1) ks) ∨
      ∃ kv : List (List Key × V), H a = some (.dT kv) ∧ ks = kv.map (fun p => D.tup (p.1.map keyD)) ∧ ks.all keyI = true) := by
  have s := S.sl i
  unfold kysAt at q
  split at q
  · rename_i kvs t e
    rw [e] at s
    by_cases hk : (kvs.all fun p => keyI p.1) = true
    · rw [if_pos hk] at q
      cases q
      have hk2 : (kvs.map (·.1)).all keyI = true := by rw [List.all_map]; exact hk
      generalize hx : σ[i]? = sx at s
      cases s with
      | @dc a _ _ m n h =>
        refine ⟨a, rfl, ?_⟩
        cases h with
        | @k kv h1 h2 h3 =>
          refine .inl ⟨kv, h1, h2, ?_⟩
          rw [h2] at hk2 ⊢
          have := repL_keyD (K := K) (H := H) (M := M) (kv.map (·.1)) (by rw [List.map_map]; exact hk2)
          rw [List.map_map, List.map_map] at this
          exact this
        | @t kv h1 h2 h3 => exact .inr ⟨kv, h1, h2, hk2⟩
    · rw [if_neg hk] at q; cases q
  · rename_i ks' t rows e
    rw [e] at s
    by_cases hk : ks'.all keyI = true
    · rw [if_pos hk] at q
      cases q
      generalize hx : σ[i]? = sx at s
      cases s with
      | @ne a _ _ bs N =>
        refine ⟨a, rfl, ?_⟩
        cases N.out with
        | @dK kv _ h1 h2 h3 =>
          refine .inl ⟨kv, h1, h2, ?_⟩
          rw [h2] at hk ⊢
          have := repL_keyD (K := K) (H := H) (M := M) (kv.map (·.1)) (by rw [List.map_map]; exact hk)
          rw [List.map_map, List.map_map] at this
          exact this
        | @dT kv _ h1 h2 h3 => exact .inr ⟨kv, h1, h2, hk⟩
    · rw [if_neg hk] at q; cases q
  · cases q
/-- list(x), x a dict -/
def mKeys (i : Nat) : Ef := fun ρ => (kysAt i ρ).bind fun d => .ok (d, ρ)
def rListE : List V → Hp → VK → Prop := fun xs H Q => ∃ p, xs = [.ref p] ∧ ((∃ kvs : List (Key × V), H p = some (.dK kvs) ∧ ∀ q, H q = none → Q (.ref q) (upd H q (.lst (kvs.map fun kv => kV kv.1)))) ∨
  ∃ kvs : List (List Key × V), Rd H p (.dT kvs) ∧ ∀ q bs, H q = none → IsKeys H kvs bs → Q (.ref q) (upd H q (.lst (bs.map V.ref))))
theorem call_listE {X : Cx} (hc : X.calm = true) : CallR X (.type "list") rListE := by
  intro pins s σ H xs us Q I rv h
  obtain ⟨p, e, h | h⟩ := h
  · obtain ⟨kvs, h1, h2⟩ := h
    exact call_list_dK hc pins s σ H xs us Q I rv ⟨p, kvs, e, h1, h2⟩
  · obtain ⟨kvs, h1, h2⟩ := h
    exact call_list_dT hc pins s σ H xs us Q I rv ⟨p, kvs, e, h1, h2⟩
theorem t_mKeys {i : Nat} {Q : VK} (h : tOfF K τ Wi (mKeys i) σ H Q) : tCB rListE (tCons (tVar i) tNil) σ H Q := by
  obtain ⟨F, M, ρ, S, h⟩ := h
  unfold mKeys at h
  cases q : kysAt i ρ with
  | bad => rw [q] at h; exact h.elim
  | exc c p => exact absurd q kysAt_noexc
  | ok ks =>
    rw [q, R.bind_ok] at h
    obtain ⟨a, hσ, g⟩ := S.kys q
    refine ⟨.ref a, hσ, a, rfl, ?_⟩
    rcases g with ⟨kv, h1, h2, h3⟩ | ⟨kv, h1, h2, h3⟩
    · exact .inl ⟨kv, h1, fun p hp => h p _ ⟨H, M, _, S, hp, New.upd hp, upd_same, h3, Step.refl⟩⟩
    · refine .inr ⟨kv, .inl h1, fun p bs hp hk => h p _ ⟨H, M, _, S, hp, New.upd hp, upd_same, ?_, Step.refl⟩⟩
      rw [h2] at h3 ⊢
      exact repL_keyT hk h3
end
end MP

namespace MP
open PySem PySem.Spec PyProof.Rows L2

/-! ### names of defs as values -/
section
variable {K : PySem.W.Frag} {τ : LTab} {Wi Wi' : WiT} {F : Fr} {H H' : Hp} {M M' M0 : Addr → Prop} {σ : L2.St} {ρ : Store} {a : Addr}
def sFnS (i : Nat) (y : Str) : Es := fun ρ => if noBo ρ i = true then .next (ρ.set i (.fn y)) else .bad
theorem t_sFnS {i : Nat} {y : Str} {f : Addr} {E : Ends} (hf : PySem.W.nsIn K mainGlobals y = some (some (.ref f))) (h : tOfS K τ Wi (sFnS i y) E σ H) : tAsg (tC (.ref f)) (gName i) E σ H := by
  obtain ⟨F, M, ρ, S, h⟩ := h
  unfold sFnS at h
  by_cases hb : noBo ρ i = true
  · rw [if_pos hb] at h
    exact h _ H M (S.setTop (.fn hf) fun c q => q.elim) Step.refl
  · rw [if_neg hb] at h; exact h.elim
def fnIs (i : Nat) (y : Str) (ρ : Store) : Bool := match ρ[i]? with
  | some (.fn z) => decide (z = y)
  | _ => false
theorem SR.fnIs {i : Nat} {y : Str} {f : Addr} (S : SR K τ F H M σ ρ) (h : MP.fnIs i y ρ = true) (hf : PySem.W.nsIn K mainGlobals y = some (some (.ref f))) : σ[i]? = some (some (.ref f)) := by
  unfold MP.fnIs at h
  have s := S.sl i
  split at h
  · rename_i z e
    have hz := of_decide_eq_true h
    subst hz
    rw [e] at s
    generalize hx : σ[i]? = sx at s
    cases s with
    | fn h1 =>
      rw [hf] at h1
      cases h1
      rfl
  · cases h
def eCallA (i : Nat) (y : Str) (io : Option Nat) (Fn : List D → Out) (fs : Ea) : Ex := fun ρ => if fnIs i y ρ = true then eCall io Fn fs ρ else .bad
theorem t_eCallA {mg : Str → Option Value} {W : WX} {n i : Nat} {y : Str} {f : Addr} {io : Option Nat} {Fn : List D → Out} {fs : Ea} {Q : VK} (hn : ∀ ds, Fn ds ≠ .bad → ds.length = n) (hf : PySem.W.nsIn K mainGlobals y = some (some (.ref f)))
    (h : tOf K τ (WiOf mg K τ W) (eCallA i y io Fn fs) σ H Q) : tCallL i f (spF mg K τ n io Fn) [] (fun cls d H => ∀ σ', W cls d σ' H) (tOfA K τ (WiOf mg K τ W) fs) σ H Q := by
  obtain ⟨F, M, ρ, S, h⟩ := h
  unfold eCallA at h
  by_cases hz : fnIs i y ρ = true
  · rw [if_pos hz] at h
    exact ⟨S.fnIs hz hf, t_eCall hn ⟨F, M, ρ, S, h⟩⟩
  · rw [if_neg hz] at h; exact h.elim
end
/-! ### dicts of lists, compiled -/
section
variable {τ : LTab} {X : Cx} {E : CE} {W : WX} {c : Cp}
def neN (E : CE) (x : Str) : Option Nat := match E.xc.lookup x with
  | some 2 => slot E x
  | some 3 => slot E x
  | _ => none
theorem neN_ok (g : Good τ E X W) {x : Str} {i : Nat} {p : Pos} (h : neN E x = some i) : PE X (.Name x p) (tVar i) := by
  have h : slot E x = some i := by
    unfold neN at h
    split at h
    · exact h
    · exact h
    · cases h
  obtain ⟨h1, h2, h3, h4⟩ := g.slot h
  exact pe_var h1 h2 h3 h4
def anN (E : CE) (x : Str) : Option Nat := match dcN E x with
  | some i => some i
  | none => neN E x
theorem anN_ok (g : Good τ E X W) {x : Str} {i : Nat} {p : Pos} (h : anN E x = some i) : PE X (.Name x p) (tVar i) := by
  unfold anN at h
  split at h
  · rename_i j q; cases h; exact dcN_ok g q
  · exact neN_ok g h
def wM (c : Cp) (E : CE) : Expr → Option Em
  | .Call (.Name f _) [.Name x _] [] _ => if f = "list" ∧ isB E f = true then (anN E x).map fun i => nw (mKeys i) else none
  | .Call (.Name x _) (e :: es) [] _ => (E.al.lookup x).bind fun y => (slot E x).bind fun i => (E.gm.lookup y).bind fun fi => if fi.io = none then (mCs c E none 0 (e :: es)).map fun fs => pl (eCallA i y none fi.Fn fs) else none
  | .Subscript (.Name x _) k _ => if isSlice k = true then none else (neN E x).bind fun i => (mE c E k).map fun f => pl (mDGet i f)
  | _ => none
theorem wM_ok (ok : CpOk c) (g : Good τ E X W) {e : Expr} {f : Em} (h : wM c E e = some f) : PE X e (tOfM X.K τ (WiOf X.mg X.K τ W) f) := by
  unfold wM at h
  split at h
  · rename_i nm np x xp pos
    by_cases hc : nm = "list" ∧ isB E nm = true
    · rw [if_pos hc] at h
      obtain ⟨rfl, hb⟩ := hc
      obtain ⟨a1, a2, a3, a4⟩ := g.bi hb
      cases q : anN E x with
      | none => rw [q] at h; cases h
      | some i =>
        rw [q] at h; cases h
        exact pe_imp (pe_callTy (call_listE g.calm) a1 a4 boot_list' (pa_cons (anN_ok g q) pa_nil (star_of rfl)) a3 a2 (star_of rfl) rfl) fun σ H Q q => t_mKeys (t_nw q)
    · rw [if_neg hc] at h; cases h
  · rename_i x xp e es pos hno
    cases q1 : E.al.lookup x with
    | none => rw [q1] at h; cases h
    | some y =>
      rw [q1, Option.bind_some] at h
      cases q2 : slot E x with
      | none => rw [q2] at h; cases h
      | some i =>
        rw [q2, Option.bind_some] at h
        cases q3 : E.gm.lookup y with
        | none => rw [q3] at h; cases h
        | some fi =>
          rw [q3, Option.bind_some] at h
          by_cases hio : fi.io = none
          · rw [if_pos hio] at h
            cases q4 : mCs c E none 0 (e :: es) with
            | none => rw [q4] at h; cases h
            | some fs =>
              rw [q4] at h; cases h
              obtain ⟨f, h1, h2⟩ := g.al x y q1
              obtain ⟨k, f', fd, ps, F, hr, hm, hk, hb, hn⟩ := g.gm y fi q3
              rw [h2] at hm
              cases hm
              obtain ⟨s1, s2, s3, s4⟩ := g.slot q2
              obtain ⟨ha, hs⟩ := mCs_ok ok g q4
              rw [List.all_cons, Bool.and_eq_true] at hs
              have hs1 : isStar e = false := by simpa using hs.1
              have hx := passes_call g.tk (E := fun cls d H => ∀ σ', W cls d σ' H) fun cls d σ H h => h σ
              rw [hio] at F
              exact pe_imp (pe_callL (i := i) F hr s1 s2 hk hb .nil hx ha s3 s4 (star_of hs1) (stars_of hs.2)) fun σ H Q q => t_eCallA hn h1 (t_pl q)
          · rw [if_neg hio] at h; cases h
  · rename_i x p k pos
    by_cases hs : isSlice k = true
    · rw [if_pos hs] at h; cases h
    · rw [if_neg hs] at h
      cases q1 : neN E x with
      | none => rw [q1] at h; cases h
      | some i =>
        rw [q1, Option.bind_some] at h
        cases q2 : mE c E k with
        | none => rw [q2] at h; cases h
        | some f1 =>
          rw [q2] at h; cases h
          exact pe_imp (pe_dget g.u1 (neN_ok g q1) (mE_ok ok g q2) (noSl_of (by simpa using hs))) fun σ H Q q => t_mDGet (t_pl q)
  · cases h
def wS (c : Cp) (E : CE) : Stmt → Option Es
  | .Assign [.Name x _] (.Dict [] [] _) _ => (tgSlot E x).bind fun i => match E.xc.lookup x with
    | some 2 => some (sNeNew i false)
    | some 3 => some (sNeNew i true)
    | _ => none
  | .Assign [.Name x _] (.Name y _) _ => if E.al.lookup x = some y ∧ isG' E y = true then (tgSlot E x).map fun i => sFnS i y else none
  | .Expr (.Call (.Attribute (.Call (.Attribute (.Name x _) m1 ap1) [k, .List [] _] [] p1) m2 ap2) [e] [] p2) _ =>
    if m1 = "setdefault" ∧ m2 = "append" ∧ isStar k = false ∧ isStar e = false ∧ (ap1.endLine == p1.line) = true ∧ (ap2.endLine == p2.line) = true then
      (neN E x).bind fun i => (mE c E k).bind fun f => (mE c E e).map fun g => sSda i f g else none
  | .Expr (.Call (.Attribute (.Subscript (.Name x _) k _) m2 ap2) [e] [] p2) _ =>
    if m2 = "append" ∧ isSlice k = false ∧ isStar e = false ∧ (ap2.endLine == p2.line) = true then
      (neN E x).bind fun i => (mE c E k).bind fun f => (mE c E e).map fun g => sNeApp i f g else none
  | .Return (some e) p => match anOf E p with
    | [] => none
    | y :: L => (mSt c E (.Return (some e) p)).map (sPre (y :: L))
  | _ => none
theorem wS_ok (ok : CpOk c) (g : Good τ E X W) {st : Stmt} {f : Es} (h : wS c E st = some f) : PS X st (tOfS X.K τ (WiOf X.mg X.K τ W) f) := by
  unfold wS at h
  split at h
  · rename_i x px dp pos
    cases q1 : tgSlot E x with
    | none => rw [q1] at h; cases h
    | some i =>
      rw [q1, Option.bind_some] at h
      obtain ⟨hi, hL, hf⟩ := g.tg q1
      split at h
      · cases h
        exact ps_imp (ps_set g.nd hi hL pe_dnewK (swap_none rfl) hf) fun D σ H q => t_sNeNew (t := false) q
      · cases h
        exact ps_imp (ps_set g.nd hi hL pe_dnewT (swap_none rfl) hf) fun D σ H q => t_sNeNew (t := true) q
      · cases h
  · rename_i x px y py pos
    by_cases hc : E.al.lookup x = some y ∧ isG' E y = true
    · rw [if_pos hc] at h
      cases q1 : tgSlot E x with
      | none => rw [q1] at h; cases h
      | some i =>
        rw [q1] at h; cases h
        obtain ⟨hi, hL, hf⟩ := g.tg q1
        obtain ⟨f, h1, h2⟩ := g.al x y hc.1
        obtain ⟨b1, b2, _⟩ := g.gl hc.2
        exact ps_imp (ps_set g.nd hi hL (pe_glob (v := .ref f) b1 h2 rfl b2) (swap_none rfl) hf) fun D σ H q => t_sFnS h1 q
    · rw [if_neg hc] at h; cases h
  · rename_i x xp m1 ap1 k lp p1 m2 ap2 e p2 pos
    by_cases hc : m1 = "setdefault" ∧ m2 = "append" ∧ isStar k = false ∧ isStar e = false ∧ (ap1.endLine == p1.line) = true ∧ (ap2.endLine == p2.line) = true
    · rw [if_pos hc] at h
      obtain ⟨rfl, rfl, hk, he, hl1, hl2⟩ := hc
      cases q1 : neN E x with
      | none => rw [q1] at h; cases h
      | some i =>
        rw [q1, Option.bind_some] at h
        cases q2 : mE c E k with
        | none => rw [q2] at h; cases h
        | some f1 =>
          rw [q2, Option.bind_some] at h
          cases q3 : mE c E e with
          | none => rw [q3] at h; cases h
          | some f2 =>
            rw [q3] at h; cases h
            have r1 := pe_bm F.plainAttrs_dict F.slot_dict_setdefault F.type_dict_setdefault (mt_setd g.u1) (neN_ok g q1 (p := xp)) (pa_cons (mE_ok ok g q2) (pa_cons (pe_lst (pos := lp) pa_nil) pa_nil rfl) (star_of hk)) (apos := ap1) (cpos := p1) rfl (by rw [star_of hk]; rfl) hl1 (star_of hk) rfl
            have r2 := pe_bm F.plainAttrs_list F.slot_list_append rfl mt_append r1 (pa_cons (mE_ok ok g q3) pa_nil (star_of he)) (apos := ap2) (cpos := p2) rfl (by rw [star_of he]; rfl) hl2 (star_of he) rfl
            exact ps_imp (ps_expr r2) fun D σ H => t_sSda
    · rw [if_neg hc] at h; cases h
  · rename_i x xp k sp m2 ap2 e p2 pos
    by_cases hc : m2 = "append" ∧ isSlice k = false ∧ isStar e = false ∧ (ap2.endLine == p2.line) = true
    · rw [if_pos hc] at h
      obtain ⟨rfl, hk, he, hl2⟩ := hc
      cases q1 : neN E x with
      | none => rw [q1] at h; cases h
      | some i =>
        rw [q1, Option.bind_some] at h
        cases q2 : mE c E k with
        | none => rw [q2] at h; cases h
        | some f1 =>
          rw [q2, Option.bind_some] at h
          cases q3 : mE c E e with
          | none => rw [q3] at h; cases h
          | some f2 =>
            rw [q3] at h; cases h
            have r1 := pe_dget (pos := sp) g.u1 (neN_ok g q1 (p := xp)) (mE_ok ok g q2) (noSl_of hk)
            have r2 := pe_bm F.plainAttrs_list F.slot_list_append rfl mt_append r1 (pa_cons (mE_ok ok g q3) pa_nil (star_of he)) (apos := ap2) (cpos := p2) rfl (by rw [star_of he]; rfl) hl2 (star_of he) rfl
            exact ps_imp (ps_expr r2) fun D σ H => t_sNeApp
    · rw [if_neg hc] at h; cases h
  · rename_i e p
    split at h
    · cases h
    · rename_i y L q0
      cases q : mSt c E (.Return (some e) p) with
      | none => rw [q] at h; cases h
      | some f1 => rw [q] at h; cases h; exact ps_imp (mSt_ok ok g q) fun D σ H => t_sPre
  · cases h
end
end MP

namespace MP
open PySem PySem.Spec PyProof.Rows L2

/-! ### several clauses, each with a name -/
/-- the name's slot is empty again behind the suite -/
def asD (i : Nat) (D : Ends) : Ends := ⟨fun u K => D.nx (u.set i none) K, D.rt, fun u K => D.bk (u.set i none) K, fun u K => D.ct (u.set i none) K⟩
abbrev ClsTs := List (Value × (Addr → Value → Option Addr → TS))
def wNm (K : PySem.W.Frag) (i : Nat) (Wo : WX) (D : Ends) : ClsTs → WX
  | [] => Wo
  | p :: r => fun cl dd u G => ∃ yes, PySem.W.exmOne K cl p.1 = some yes ∧ (yes = true → ∀ e, G e = none → p.2 e cl dd (asD i D) (u.set i (some (.ref e))) G) ∧ (yes = false → wNm K i Wo D r cl dd u G)
inductive HdNm (X : Cx) (n : Str) : List ExceptHandler → ClsTs → Prop
  | nil : HdNm X n [] []
  | cons {y : Str} {c : Value} {ts : Addr → Value → Option Addr → TS} {st : Stmt} {sts : List Stmt} {p1 p2 : Pos} {hs : List ExceptHandler} {l : ClsTs} (nm : Names X y c)
      (su : ∀ (e : Addr) (ob : Obj) (cl : Value) (dd : Option Addr) (pn : List (Addr × Obj)), Zc cl dd ob → (∃ vs, ob.data = .fields vs) → PSs (X.suite e ((e, ob) :: pn)) (st :: sts) (ts e cl dd)) (more : HdNm X n hs l) :
      HdNm X n (.ExceptHandler (some (.Name y p1)) (some n) (st :: sts) p2 :: hs) ((c, ts) :: l)
section
variable {X : Cx} {n : Str} {i : Nat} {bd : List Stmt} {h1 : ExceptHandler} {hs : List ExceptHandler} {l : ClsTs} {pos : Pos} {tb : WX → TS} {Wo : WX}
theorem ps_try_nm (e1 : X.stack = X.env :: X.outer) (e2 : X.env.frame = some X.env.locals) (nd : X.N.Nodup) (hi : X.N[i]? = some n) (hl : X.env.kindOf n = some .local) (tk : Takes X Wo)
    (hb : ∀ (W : WX) (pn : List (Addr × Obj)) (xe : Value → Shared → Prop), Takes (X.tr pn xe) W → PassesOwn (model X.prog X.w) X.A X.env xe → PSs (X.tr pn xe) bd (tb W))
    (hh : HdNm X n (h1 :: hs) l) : PS X (.Try bd (h1 :: hs) [] [] pos) (fun D u G => tb (wNm X.K i Wo D l) D u G) := by
  constructor
  intro pins s u G D I h
  have ok := I.ok
  have fr : X.A.frames = some (X.env :: X.outer) := e1 ▸ ok.frames
  have loc : Loc X.env.scope n := Or.inl hl
  apply wpAny_Try_except
  have tkc : Takes (X.tr (X.pn ++ pins) (fun v s2 => wpAny (model X.prog X.w) X.A (noteFrame v X.env) (fun _ s3 => wpAny (model X.prog X.w) X.A (setFlight v none) (fun _ s4 =>
      wpAny (model X.prog X.w) X.A (handleBy v X.env (h1 :: hs)) (SP X pins D) X.xe s4) X.xe s3) X.xe s2)) (wNm X.K i Wo D l) := by
    rintro v s2 ⟨e, B, s1, pins', u', G', cl, dd, rfl, Ja, nb, upS, sky, ne, os, ag, w⟩
    have J : Inv X pins u' G' s1 := Ja.ofTry ok
    rw [e1] at sky
    show wpAny (model X.prog X.w) X.A (noteFrame (.ref e) X.env) _ _ _
    refine Sky.land Zc.steady fr e2 sky fun g fl upG => ?_
    have Jg : Inv X pins u' G' { s2 with heap := g } := J.landed nb fl.1 (upS.trans upG) os ag
    obtain ⟨ob, vs, hob, hz, hdat⟩ := fl.there
    have notin : e ∉ frs (X.env :: X.outer) := fun hm => by
      obtain ⟨_, o2, he2, hno⟩ := fl.2.2.1.mem hm
      rw [hob] at he2
      cases he2
      exact hno _ hdat
    have nloc : e ≠ X.env.locals := fun z => notin (List.mem_filterMap.mpr ⟨_, List.mem_cons_self, by rw [e2, z]⟩)
    have nfs : e ∉ X.fs := fun hm => by
      obtain ⟨en, hen, q⟩ := List.mem_filterMap.mp hm
      exact notin (List.mem_filterMap.mpr ⟨en, List.mem_cons_of_mem _ hen, q⟩)
    have Sg := Jg.suite hob hdat ne nloc nfs
    have run : ∀ (hs' : List ExceptHandler) (l' : ClsTs), HdNm X n hs' l' → wNm X.K i Wo D l' cl dd u' G' → wpAny (model X.prog X.w) X.A (handleBy (.ref e) X.env hs') (SP X pins D) X.xe { s2 with heap := g } := by
      intro hs' l' hk
      induction hk with
      | nil =>
        intro w
        refine wpAny_handleBy_nil ?_
        obtain ⟨_, _, _, ob2, vs2, T, _, _, hob2, _, hdat2, hT, _⟩ := id fl
        unfold PySem.passOn
        refine wpAny_bind (wpAny_field hob2 hdat2 hT ?_)
        rw [if_neg (show ¬ ((Value.ref T == Value.none) = true) by simp)]
        have up2 : wpAny (model X.prog X.w) X.A (setFlight (.ref e) X.env.frame) (fun _ s4 => wpAny (model X.prog X.w) X.A (throw (.ref e) : Sem Flow) (SP X pins D) X.xe s4) X.xe { s2 with heap := g } := by
          rw [e2]
          refine HandSPX.setFlight_upZ fl fun g4 fl4 up4 => wpAny_throw (tk _ _ ?_)
          refine ⟨e, B, s1, pins, u', G', cl, dd, rfl, J, nb, (upS.trans upG).trans up4, .inr (.inr ?_), ne, os, ag, w⟩
          rw [e1]; exact fl4
        first
          | exact wpAny_bind (wpAny_pure (wpAny_bind up2))
          | exact wpAny_bind up2
      | @cons y c ts st sts p1 p2 hs2 l2 nm su more ih =>
        rintro ⟨yes, hx, hyes, hno⟩
        refine wpAny_handleBy_cons (codeAny_handlers_test ?_) (by intro q; cases q)
        have ty : PySem.W.Looks (model X.prog X.w) g (typeOf (.ref e)) cl := fun A Q E s k q => wpAny_typeOf_ref (k _ _ hob) (by rw [hz.1]; exact q)
        have look := PySem.W.exm_one (M := model X.prog X.w) Jg.kIn ty hx
        have nmv : ∀ {Q : Value → Shared → Prop} {E : Value → Shared → Prop}, Q c { s2 with heap := g } → wpAny (model X.prog X.w) (X.A.mark (some (.ref e))) (eval (.Name y p1) X.env) Q E { s2 with heap := g } := fun {Q E} q => by
          obtain ⟨gl, nd1, m | ⟨m, bv, n1⟩⟩ := nm
          · exact ld_glob (X := X.suite e ((e, ob) :: (X.pn ++ pins))) Sg gl m q nd1
          · exact ld_blt (X := X.suite e ((e, ob) :: (X.pn ++ pins))) Sg gl m bv q n1 nd1
        refine nmv (look.here ?_)
        cases yes with
        | false =>
          show wpAny _ X.A (handleBy (.ref e) X.env hs2) _ _ _
          exact ih (hno rfl)
        | true =>
          refine codeAny_handlers_suite_as ?_
          refine HandSPX.lands_againZ fl fun g4 fl4 up4 => ?_
          have J4 : Inv X pins u' G' { s2 with heap := g4 } := J.landed nb fl4.1 ((upS.trans upG).trans up4) os ag
          obtain ⟨ob4, vs4, hob4, hz4, hdat4⟩ := fl4.there
          have S4 := J4.suite hob4 hdat4 ne nloc nfs
          refine store_ok (X := X.suite e ((e, ob4) :: (X.pn ++ pins))) (v := .ref e) S4 nd hi loc rfl (fun s5 S5 => ?_) (.inr hl)
          have done : ∀ {u6 : L2.St} {G6 : Hp} {s6 : Shared} {Q : Shared → Prop}, Inv (X.suite e ((e, ob4) :: (X.pn ++ pins))) [] u6 G6 s6 → (∀ s7, Inv X pins (u6.set i none) G6 s7 → Q s7) →
              wpAny (model X.prog X.w) X.A (do bindName X.env n .none; unbindBehindTheSuite X.env n p2) (fun _ s7 => Q s7) X.xe s6 := fun S6 hq => gone_ok (S6.unsuite ok) nd hi hl hq
          refine wpAny_mono ((su e ob4 cl dd (X.pn ++ pins) hz4 ⟨_, hdat4⟩).run [] s5 _ G' _ S5 (hyes rfl e ne)) (fun fl6 s6 post => ?_) fun _ _ z => z.elim
          cases fl6 with
          | next => obtain ⟨_, _, S6, q⟩ := post; exact done S6 fun s7 J7 => ⟨_, _, J7, q⟩
          | brk => obtain ⟨_, _, S6, q⟩ := post; exact done S6 fun s7 J7 => ⟨_, _, J7, q⟩
          | cont => obtain ⟨_, _, S6, q⟩ := post; exact done S6 fun s7 J7 => ⟨_, _, J7, q⟩
          | ret v => obtain ⟨_, _, _, S6, r, q⟩ := post; exact done S6 fun s7 J7 => ⟨_, _, _, J7, r, q⟩
    exact run _ _ hh w
  refine wpAny_mono ((hb _ _ _ tkc PassesOwn.looking).run [] s u G D (I.toTry _) h) (fun fl6 s6 post => ?_) fun _ _ z => z
  cases fl6 with
  | next => obtain ⟨_, _, J6, q⟩ := post; exact wpAny_execs_nil ⟨_, _, J6.ofTry ok, q⟩
  | brk => obtain ⟨_, _, J6, q⟩ := post; exact ⟨_, _, J6.ofTry ok, q⟩
  | cont => obtain ⟨_, _, J6, q⟩ := post; exact ⟨_, _, J6.ofTry ok, q⟩
  | ret v => obtain ⟨_, _, _, J6, r, q⟩ := post; exact ⟨_, _, _, J6.ofTry ok, r, q⟩
end
end MP

namespace MP
open PySem PySem.Spec PyProof.Rows L2
open LamX (CodeO GivesTo)

/-! ### defs that ask what they are given -/
def hdQ (n : Str) : ExceptHandler → Option (Str × Str)
  | .ExceptHandler (some (.Name y _)) (some m) [.Return (some (.Tuple [.Constant (.str r) _ _, .Attribute (.Name m2 _) f _] _ _)) _] _ => if m = n ∧ m2 = n ∧ f = "place" ∧ PyData.strOk r = true then some (y, r) else none
  | _ => none
def hdsQ (n : Str) : List ExceptHandler → Option (List (Str × Str))
  | [] => some []
  | h :: hs => (hdQ n h).bind fun p => (hdsQ n hs).map fun l => p :: l
def askQ (a n : Str) : List Stmt → Option (List (Str × Str))
  | [.Try [.Return (some (.Tuple [.Constant (.str t) _ _, .Call (.Name b _) [] [] _] _ _)) _] (h :: hs) [] [] _] => if t = "told" ∧ b = a then hdsQ n (h :: hs) else none
  | _ => none
/-- what is known of the classes asked for -/
structure AskF (K : PySem.W.Frag) (mg : Str → Option Value) (sg : Scope) (er : List Str) (hs : List (Str × Str)) : Prop where
  hd : ∀ p ∈ hs, sg.names.lookup p.1 = some .globalImplicit ∧ (p.1 == ("__debug__" : Str)) = false ∧ ∃ D : Addr, mg p.1 = some (.ref D) ∧ ∀ c ∈ er, ∀ C : Addr, mg c = some (.ref C) → PySem.W.exmOne K (.ref C) (.ref D) = some (c == p.1 || p.1 == ("PointwrightError" : Str))
  er : ∀ c ∈ er, ∀ C : Addr, mg c = some (.ref C) → XfC K C ∧ PySem.W.findIn K (.ref C) "place" = some none
/-- e.place in a clause -/
def tPl (K : PySem.W.Frag) (i : Nat) (e : Addr) (cl : Value) (dd : Option Addr) : TE := fun σ H Q => ∃ C, XfC K C ∧ PySem.W.findIn K (.ref C) "place" = some none ∧ tXf e cl dd C "place" (tVar i) σ H Q
def tAns (K : PySem.W.Frag) (i : Nat) (r : Str) : Addr → Value → Option Addr → TS := fun e cl dd => tRet (tTup (tCons (tC (.str r)) (tCons (tPl K i e cl dd) tNil)))
theorem askP_yes {p : Str × Str} {hs : List (Str × Str)} {c : Str} (h : (c == p.1 || p.1 == ("PointwrightError" : Str)) = true) : askP (p :: hs) c = some p.2 := by
  unfold askP List.find?
  rw [h]; rfl
theorem askP_no {p : Str × Str} {hs : List (Str × Str)} {c : Str} (h : (c == p.1 || p.1 == ("PointwrightError" : Str)) = false) : askP (p :: hs) c = askP hs c := by
  unfold askP
  conv => lhs; unfold List.find?
  rw [h]
theorem len2 {a b : V} : [a, b].length ≤ sizeLine := by
  show 2 ≤ sizeLine
  rw [sizeLine_eq]; decide
section
variable {X : Cx} {n : Str} {i : Nat} {er : List Str}
theorem hdNm_of (hi : X.N[i]? = some n) (hl : X.env.kindOf n = some .local) (d1 : (n == ("__debug__" : Str)) = false) (d2 : (n == ("__classdict__" : Str)) = false) : ∀ {hds : List ExceptHandler} {hs : List (Str × Str)}, hdsQ n hds = some hs → AskF X.K X.mg X.env.scope er hs →
    ∃ l : ClsTs, HdNm X n hds l ∧ ∀ (Wo : WX) (D : Ends) (σ : L2.St) (H : Hp) (cls : Value) (dx : Option Addr), i < σ.length →
      (∃ c C dd fs v r, c ∈ er ∧ X.mg c = some (.ref C) ∧ cls = .ref C ∧ dx = some dd ∧ H dd = some (.xd fs) ∧ fs.lookup ("place" : Str) = some v ∧ askP hs c = some r ∧ PyData.strOk r = true ∧ ∀ p, H p = none → D.rt (.ref p) (upd H p (.tup [.str r, v]))) → wNm X.K i Wo D l cls dx σ H
  | [], hs, h, _ => by
    cases h
    refine ⟨[], .nil, fun Wo D σ H cls dx _ ⟨c, C, dd, fs, v, r, _, _, _, _, _, _, hr, _⟩ => ?_⟩
    cases hr
  | hd :: hds, hs, h, F => by
    unfold hdsQ at h
    cases q1 : hdQ n hd with
    | none => rw [q1] at h; cases h
    | some p =>
      rw [q1, Option.bind_some] at h
      cases q2 : hdsQ n hds with
      | none => rw [q2] at h; cases h
      | some hs2 =>
        rw [q2] at h
        cases h
        obtain ⟨l, h1, h2⟩ := hdNm_of hi hl d1 d2 q2 ⟨fun p hp => F.hd p (List.mem_cons_of_mem _ hp), F.er⟩
        obtain ⟨g1, g2, D0, g3, g4⟩ := F.hd p List.mem_cons_self
        unfold hdQ at q1
        split at q1
        · rename_i y py m r0 j pj m2 pm f pf k pt pr ph
          by_cases hc : m = n ∧ m2 = n ∧ f = "place" ∧ PyData.strOk r0 = true
          · rw [if_pos hc] at q1
            cases q1
            obtain ⟨rfl, rfl, rfl, hok⟩ := hc
            refine ⟨(.ref D0, tAns X.K i r0) :: l, .cons ⟨g1, g2, .inl g3⟩ (fun e ob cl dd pn hz hf => pss_one (ps_ret (pe_tup (pa_cons pe_str (pa_cons ⟨fun pins s σ H Q I ⟨C, T, hno, q⟩ => (pe_xf (X := X) T hno hz hf (pe_var (i := i) hi (.inl hl) d1 d2)).run pins s σ H Q I q⟩ pa_nil rfl) rfl)))) h1, fun Wo D σ H cls dx hlen ⟨c, C, dd, fs, v, r, c1, c2, c3, c4, c5, c6, c7, c8, c9⟩ => ?_⟩
            refine ⟨_, by rw [c3]; exact g4 c c1 C c2, fun hy e he => ?_, fun hn => ?_⟩
            · have er0 : r = r0 := by
                exact (Option.some.inj ((askP_yes hy).symm.trans c7)).symm
              subst er0
              obtain ⟨T, hno⟩ := F.er c c1 C c2
              refine ⟨C, T, hno, .ref e, ?_, rfl, c3, dd, fs, v, c4, c5, c6, ?_⟩
              · exact List.getElem?_set_self hlen
              · exact ⟨len2, c9⟩
            · refine h2 Wo D σ H cls dx hlen ⟨c, C, dd, fs, v, r, c1, c2, c3, c4, c5, c6, ?_, c8, c9⟩
              exact (askP_no hn).symm.trans c7
          · rw [if_neg hc] at q1; cases q1
        · cases q1
theorem ask_gives {Ng : List Str} {x a q : Str} {sg : Scope} {g : Addr} {cdg : Value} {bg : List Stmt} {hs : List (Str × Str)} (hq : askQ a n bg = some hs) (F : AskF X.K X.mg sg er hs) (nd : Ng.Nodup) (hi : Ng[i]? = some n) (hl : sg.names.lookup n = some .local) (d1 : (n == ("__debug__" : Str)) = false) (d2 : (n == ("__classdict__" : Str)) = false)
    (h0 : ∀ f : Addr, (L2.start Ng [V.ref f])[0]? = some (some (V.ref f))) : GivesTo X Ng x sg g cdg bg a q (TTask X.mg er hs) := by
  unfold askQ at hq
  split at hq
  · rename_i t jt pt b pb pc kt ptu pr h hds pos
    by_cases hc : t = "told" ∧ b = a
    · rw [if_pos hc] at hq
      obtain ⟨rfl, rfl⟩ := hc
      intro f c' s H Q tl act hcode ht
      obtain ⟨l, H1, H2⟩ := hdNm_of (X := (cxOf C8.CX0 X.prog X.w X.K X.mg X.base Ng x sg g cdg X.A X.stack s H C8.E0).nox) (er := er) hi hl d1 d2 hq F
      refine ⟨_, pss_one (ps_try_nm (X := (cxOf C8.CX0 X.prog X.w X.K X.mg X.base Ng x sg g cdg X.A X.stack s H C8.E0).nox) (i := i)
        (tb := fun W D σ H => ∃ Ech : XK, (∀ cls d σ' H', Ech cls d H' → σ'.length = Ng.length → W cls d σ' H') ∧ σ[0]? = some (some (.ref f)) ∧ H c' = some (CodeO c' q) ∧ tl Ech H fun v H1 => ([V.str ("told" : Str), v] : List V).length ≤ sizeLine ∧ ∀ p, H1 p = none → D.rt (.ref p) (upd H1 p (.tup [.str ("told" : Str), v])))
        rfl rfl nd hi hl LamX.takes0 (fun W pn xe tk _ => ?_) H1), ?_⟩
      · refine ⟨fun pins s' σ H' D I h' => ?_⟩
        obtain ⟨Ech, hW, g1, g2, g3⟩ := h'
        have hp := act (fun cls d σ' H' => σ'.length = Ng.length → W cls d σ' H') pn xe Ech pb pc (fun u s2 ⟨e, B, sI, pins2, σ2, H2, cls, d, ee, I2, nb, up, sky, ne, os, ag, w⟩ => tk u s2 ⟨e, B, sI, pins2, σ2, H2, cls, d, ee, I2, nb, up, sky, ne, os, ag, w I2.len⟩) hW
        have hr := pss_one (ps_ret (pos := pr) (pe_tup (x1 := kt) (pos := ptu) (pa_cons (pe_str (x := ("told" : Str)) (j := jt) (pos := pt)) (pa_cons hp pa_nil rfl) rfl)))
        exact hr.run pins s' σ H' D I ⟨g1, g2, g3⟩
      · refine ⟨_, fun cls dx σ' H' hw hlen => ?_, h0 f, hcode, ht⟩
        exact H2 _ _ σ' H' cls dx (by rw [hlen]; exact (List.getElem?_eq_some_iff.mp hi).1) hw
    · rw [if_neg hc] at hq; cases hq
  · cases hq
end
end MP

namespace MP
open PySem PySem.Spec PyProof.Rows L2
open LamX (CodeO ExtN lamEnv lamCx TabB LamS tLam)

/-! ### x(lambda: e), x a def that asks -/
def vaS : Sl → Sl
  | .va d => .va d
  | .sc ns => .sc ns
  | .fn x => .fn x
  | _ => .no
def eAsk (er : List Str) (hs : List (Str × Str)) (fz : List (Nat × Bool)) (f : Ex) : Ex := fun ρ =>
  match f ((clean fz ρ).map vaS) with
  | .ok x => .ok (.tup [.str "told", x.1], clean fz ρ)
  | .exc c p => if c ∈ er then match askP hs c with
    | some r => if PyData.strOk r = true then .ok (.tup [.str r, p], clean fz ρ) else .bad
    | none => .bad
    else .bad
  | .bad => .bad
section
variable {K : PySem.W.Frag} {τ : LTab} {Wi : WiT} {F : Fr} {H H' : Hp} {M M' : Addr → Prop} {σ : L2.St} {ρ : Store}
theorem vaS_own (x : Sl) : (vaS x).own = false := by cases x <;> rfl
theorem SR.vas (S : SR K τ F H M σ ρ) : SR K τ ⟨M, M, H, fun _ => False⟩ H M σ (ρ.map vaS) := by
  have no : ∀ j a, ¬ OwnAt H σ (ρ.map vaS) j a := fun j a ⟨b, x, _, h2, h3⟩ => by
    rw [List.getElem?_map] at h2
    cases q : ρ[j]? with
    | none => rw [q] at h2; cases h2
    | some y =>
      rw [q] at h2
      cases h2
      have := Sl.owns_own h3
      rw [vaS_own] at this
      cases this
  refine ⟨fun a z => z.elim, fun a z => z, S.dom, Step.refl, fun a _ _ => rfl, by rw [List.length_map]; exact S.len, fun i => ?_, fun i j a h _ => absurd h (no i a), S.tab⟩
  rw [List.getElem?_map]
  have h := S.sl i
  revert h
  generalize σ[i]? = z
  intro h
  cases q : ρ[i]? with
  | none => exact .nil
  | some y =>
    rw [q] at h
    cases y with
    | va d => cases h with | va r => exact .va r
    | sc ns => cases h with | sc r => exact .sc r
    | fn x => cases h with | fn r => exact .fn r
    | _ => exact .no
theorem SR.back2 (S : SR K τ F H M σ ρ) {M2 : Addr → Prop} (st : Step H M H' M2) (sub : ∀ a, M a → M2 a) (e : ∀ a, M a → H' a = H a) (tb : Tabs τ H') : SR K τ F H' M σ ρ ∧ Step H M H' M :=
  have st' := st.trans (Step.less sub)
  ⟨S.same st' e tb, st'⟩
theorem t_eAsk {mg : Str → Option Value} {er : List Str} {hs : List (Str × Str)} {fz : List (Nat × Bool)} {f : Ex} {Q : VK} {Wi : WiT}
    (h : tOf K τ Wi (eAsk er hs fz f) σ H Q) (hm : ∀ c ∈ er, ∃ C : Addr, mg c = some (.ref C)) :
    tLam τ (TTask mg er hs) (fun E => tOf K τ (WiOf mg K τ fun cls d _ H => E cls d H) f) σ H Q := by
  obtain ⟨F, M, ρ, S, h⟩ := h
  refine ⟨S.tab.1, fun H1 eN T1 => ?_⟩
  obtain ⟨st1, e1⟩ := S.tab.ext eN
  have S1 := S.same st1 e1 T1
  obtain ⟨M2, S2, st2⟩ := SR.clean fz S1
  refine ⟨⟨M2, M2, H1, fun _ => False⟩, M2, (clean fz ρ).map vaS, S2.vas, ?_⟩
  unfold eAsk at h
  cases q : f ((clean fz ρ).map vaS) with
  | bad => rw [q] at h; exact h
  | exc c p =>
    rw [q] at h
    dsimp only at h
    by_cases hc : c ∈ er
    · rw [if_pos hc] at h
      cases q2 : askP hs c with
      | none => rw [q2] at h; exact h.elim
      | some r =>
        rw [q2] at h
        dsimp only at h
        by_cases hk : PyData.strOk r = true
        · rw [if_pos hk] at h
          intro cls dx σ' H' M3 ⟨C, a, fs, v, x1, x2, x3, x4, x5, x6⟩ st sub e tb
          obtain ⟨S3, st3⟩ := S2.back2 st sub (fun a m => e a m id) tb
          refine ⟨c, C, a, fs, v, r, hc, x2, x1, x3, x4, x5, q2, hk, fun P hP => ?_⟩
          have nt := new_tup hP (RepL.cons (Rep.str r hk) (RepL.cons (x6.to (Step.less sub)) .nil))
          exact h _ _ M2 nt.2 (S3.new nt.1) (((st1.trans st2).trans st3).trans nt.1.step)
        · rw [if_neg hk] at h; exact h.elim
    · rw [if_neg hc] at h; exact h.elim
  | ok x =>
    obtain ⟨d, ρ'⟩ := x
    rw [q] at h
    intro v H' M3 rv Sf st
    obtain ⟨S3, st3⟩ := S2.back2 st Sf.sub (fun a m => Sf.rest a m id) Sf.tab.1
    refine ⟨len2, fun P hP => ?_⟩
    have nt := new_tup hP (RepL.cons (Rep.str ("told" : Str) (by kernel_rfl)) (RepL.cons (rv.to (Step.less Sf.sub)) .nil))
    exact h _ _ M2 nt.2 (S3.new nt.1) (((st1.trans st2).trans st3).trans nt.1.step)
end
theorem lam_bind0 (q : Str) (body : Expr) (scope : Scope) (cl : List (Str × Addr)) (pm cv ctv : Value) :
    bindArgs (PySem.W.kla_fn "<lambda>" q ⟨[], [], none, [], [], none, []⟩ body scope cl pm cv ctv) ⟨[], []⟩ = pure [] := by
  have e : seqItems? Value.none = pure none := rfl
  unfold bindArgs PySem.W.kla_fn
  simp [List.lookup, e]
section
variable {τ : LTab} {X : Cx} {E : CE} {W : WX} {c : Cp}
theorem Good.lamE (g : Good τ E X W) {k : Nat} {A : Around} {outer : List Env} {s : Shared} {H : Hp} {E0 : XK} {scope : Scope} {f c' : Addr} (hk : scope.kind = .function) (hr : Room k (A.deeper (lamEnv X scope s.heap.objs.size f c')))
    (gm : ∀ x fi, E.gm.lookup x = some fi → ∃ f fd ps, FnOk X.prog X.w X.K X.mg X.base (L2.CX X.prog X.w) k f fd ps (spF X.mg X.K τ fi.n fi.io fi.Fn) ∧ X.mg x = some (.ref f) ∧ PySem.W.keepIn X.K (.ref f) = true ∧ Binds X.K fd ps [] ∧ ∀ ds, fi.Fn ds ≠ .bad → ds.length = fi.n) :
    Good τ (E.lamS scope) (lamCx X A outer s H E0 scope f c') (fun cls d _ H => E0 cls d H) := by
  have g1 := g.lamS (A := A) (outer := outer) (s := s) (H := H) (E0 := E0) (f := f) (c' := c') hk hr gm
  exact ⟨g1.N, g1.nd, g1.nm, g1.kd, g1.calm, g1.fn, g1.un, g1.bl, g1.cs, g1.gm, takes_of rfl rfl rfl rfl, g1.po, g1.lm, g1.al, g1.er, g1.ak⟩
def mAsk (c : Cp) (E : CE) (x : Str) : Expr → Option Em
  | .Lambda ⟨[], [], none, [], [], none, []⟩ body scope lp => if E.lam = true ∧ isG' E x = true ∧ LamX.lamSB { scope with names := E.nm } scope = true then
      (E.ak.lookup x).bind fun hs => (mE c (E.lamS scope) body).map fun f => pl (eAsk E.er hs ((E.an.lookup (1000000 + lp.line)).getD []) f)
    else none
  | _ => none
theorem mAsk_ok (ok : CpOk c) (g : Good τ E X W) {x : Str} {l : Expr} {f : Em} {p pos : Pos} (h : mAsk c E x l = some f) : PE X (.Call (.Name x p) [l] [] pos) (tOfM X.K τ (WiOf X.mg X.K τ W) f) := by
  unfold mAsk at h
  split at h
  · rename_i body scope lp
    by_cases hc : E.lam = true ∧ isG' E x = true ∧ LamX.lamSB { scope with names := E.nm } scope = true
    · rw [if_pos hc] at h
      obtain ⟨h1, h2, h3⟩ := hc
      obtain ⟨a1, a2, a3⟩ := g.gl h2
      have L0 := LamX.lamS_by h3
      have L : LamS X.env.scope scope := ⟨L0.kind, L0.co, L0.gen, L0.own, fun y hy e => by rw [g.nm]; exact L0.free y hy e⟩
      obtain ⟨⟨k, hr, gm⟩, cc, P, TB, hcode, hmT, hu⟩ := g.lm h1
      cases q1 : E.ak.lookup x with
      | none => rw [q1] at h; cases h
      | some hs =>
        rw [q1, Option.bind_some] at h
        cases q2 : mE c (E.lamS scope) body with
        | none => rw [q2] at h; cases h
        | some fb =>
          rw [q2] at h
          cases h
          obtain ⟨ga, a, pg, bg, sg, dV, kV, doc, pm, cdv, ct, oc, an, od, osl, Ng, m1, m2, m3, m4, m5, m6, m7, m8, m9, m10, m11⟩ := g.ak x hs q1
          exact pe_imp (LamX.pe_lamcall (T := τ) (TT := TTask X.mg E.er hs) (k := k) (t := fun E0 => tOf X.K τ (WiOf X.mg X.K τ fun cls d _ H => E0 cls d H) fb) a1 m1 m2 m3 m4 m5 m6 m7 m8
            (m11 X rfl rfl rfl rfl rfl _) TB hcode hmT hu (hr.mono (by omega)) L rfl (fun q cl pm cv ctv => lam_bind0 q body scope cl pm cv ctv)
            (fun A outer s H E0 f c' hr2 => mE_ok ok (g.lamE L.kind hr2 gm) q2) a2 m9 m10) fun σ H Q q => t_eAsk (t_pl q) (fun c hc => by
              obtain ⟨k, C, ek, _⟩ := g.er c hc
              exact ⟨C, ek.cl⟩)
    · rw [if_neg hc] at h; cases h
  · cases h
end
end MP

namespace MP
open PySem PySem.Spec PyProof.Rows L2
open PySem.W (ksEnv ksFn)

/-! ### an error's __init__: a def over the cell __class__ -/
structure IniSc (sc : Scope) : Prop where
  kind : sc.kind = .function
  co : sc.isCoroutine = false
  gen : sc.isGenerator = false
  self : sc.names.lookup ("self" : Str) = some .local
  place : sc.names.lookup ("place" : Str) = some .local
  sup : sc.names.lookup ("super" : Str) = some .globalImplicit
  cls : sc.names.lookup ("__class__" : Str) = some .free
  nocell : ∀ x ∈ sc.names, x.2 ≠ .cell
  free : ∀ x ∈ sc.names, x.2 = .free → x.1 = ("__class__" : Str)
def iniCx (P : Program) (w : World) (K : PySem.W.Frag) (mg : Str → Option Value) (base : Heap) (q : Str) (sc : Scope) (f : Addr) (cd : Value) (cc : Addr) (A : Around) (outer : List Env) (s : Shared) (H : Hp) : Cx where
  prog := P
  w := w
  K := K
  mg := mg
  base := base
  A := A.deeper (ksEnv q sc s.heap.objs.size f cd cc)
  N := ["self", "place"]
  s_0 := s
  H_0 := H
  env := ksEnv q sc s.heap.objs.size f cd cc
  outer := outer
  stack := ksEnv q sc s.heap.objs.size f cd cc :: outer
  ex := []
  fn := fun _ => false
  calm := true
  pn := []
  xe := fun _ _ => False
section
variable {P : Program} {w : World} {K : PySem.W.Frag} {mg : Str → Option Value} {base : Heap} {q : Str} {sc : Scope} {f cc D : Addr} {cd : Value} {A : Around} {outer : List Env} {s : Shared} {H : Hp}
theorem cell1 {y : Str} {c : Addr} (h : ([(("__class__" : Str), cc)] : List (Str × Addr)).lookup y = some c) : y = ("__class__" : Str) ∧ c = cc := by
  have := PySem.mem_of_lookup h
  simpa using this
theorem inv_ini (S : IniSc sc) (e0 : Env0 P w K mg base A outer s H) (hd : A.handled = none) {cl : Value} {cld : Option Addr} {csl : Array (Option Value)} (hc : K.lookup cc = some ⟨cl, cld, .cell (some (.ref D)), csl⟩)
    {h₀ : Heap} {u0 u1 : Value} {v0 v1 : V} {tk : Nat} (hns : h₀.Ns s.heap.objs.size (fun y => ([(("self" : Str), u0), (("place" : Str), u1)] : List (Str × Value)).reverse.lookup y)) (kp : ∀ b o, s.heap.get? b = some o → h₀.get? b = some o) (r0 : RelV v0 u0) (r1 : RelV v1 u1) :
    Inv (iniCx P w K mg base q sc f cd cc A outer s H) [] [some v0, some v1] H { s with heap := h₀, toks := tk } := by
  have noA : ∀ b : Addr, b ∉ (iniCx P w K mg base q sc f cd cc A outer s H).ex := fun b z => absurd (show b ∈ ([] : List Addr) from z) (by simp)
  have hcell := e0.bs _ _ (e0.mod.kin _ _ hc)
  refine ⟨⟨e0.mod, S.kind, rfl, rfl, Nat.le_refl _, fun y z c e1 e2 => (cell1 e1).1.trans (cell1 e2).1.symm, fun y hy => ?_, fun y c z _ => ?_, fun _ => hd, Around.frames_deeper e0.frames, .inr ⟨rfl, rfl⟩, fun b z => absurd z (noA b), e0.bs, e0.bsz, fun b _ _ => noA b,
      fun b z => absurd z (noA b), e0.funs, e0.frf⟩,
    rfl, e0.bare, Un.kept kp, ⟨_, hns, fun i y v e1 e2 e3 => ?_⟩, fun y c e => ?_, e0.hok.fresh (Nat.le_refl _), fun y c e => ?_, fun p hp => absurd (show p ∈ ([] : List (Addr × Obj)) from hp) (by simp), e0.hok.kept kp, rfl⟩
  · have hy : sc.names.lookup y = some .cell ∨ sc.names.lookup y = some .free := hy
    rcases hy with hy | hy
    · exact absurd rfl (S.nocell _ (PySem.mem_of_lookup hy))
    · have e := S.free _ (PySem.mem_of_lookup hy) rfl
      have e : y = ("__class__" : Str) := e
      subst e
      exact ⟨cc, rfl⟩
  · have z : false = true := z
    cases z
  · match i, e1, e2 with
    | 0, e1, e2 =>
      cases e1; cases e2
      exact ⟨u0, r0, .inl ⟨S.self, rfl⟩⟩
    | 1, e1, e2 =>
      cases e1; cases e2
      exact ⟨u1, r1, .inl ⟨S.place, rfl⟩⟩
    | i + 2, e1, e2 => cases e1
  · obtain ⟨_, rfl⟩ := cell1 e
    exact ⟨_, _, kp _ _ hcell.1, rfl⟩
  · obtain ⟨_, rfl⟩ := cell1 e
    exact hcell.2
/-- what the written part says of an instance's class and of the def's own class -/
structure IniC (K : PySem.W.Frag) (C D : Addr) : Prop where
  ox : OexC K C
  sub : PySem.W.mroIn K C (.ref D) = some true
  clD : ∃ cdD, PySem.W.clsIn K D = some cdD
  any : PySem.W.nsIn K cStatics "thirdparty.any" = some none
  place : PySem.W.findIn K (.ref C) "place" = some none
  name : PySem.W.findIn K (.ref C) "name" = some none
  val : PySem.W.subIn K (.ref C) (.type "ValueError") = some true
/-- what the written part says of the def -/
structure IniF (P : Program) (K : PySem.W.Frag) (mg : Str → Option Value) (f : Addr) (fd : FuncData) (cda cc D : Addr) : Prop where
  fn : ∃ oc od osl, K.lookup f = some ⟨oc, od, .func fd, osl⟩
  head : ∃ ar, (fd.params.posonlyargs ++ fd.params.args).head? = some ar ∧ ar.arg = ("self" : Str)
  code : ∃ ccl cdd vs ccs file tf, K.lookup cda = some ⟨ccl, cdd, .fields vs, ccs⟩ ∧ vs[2]? = some (.str file tf) ∧ ((P.main.file : Str) == file) = true
  cell : ∃ cl cld csl, K.lookup cc = some ⟨cl, cld, .cell (some (.ref D)), csl⟩
  sup : mg "super" = none
  top : (P.main.scope.names.lookup ("super" : Str)).isSome = false
theorem ini_mro {C D : Addr} (h : PySem.W.mroIn K C (.ref D) = some true) : ∃ cd, PySem.W.clsIn K C = some cd ∧ ∀ {M : Model} {h : Heap}, K.In h → PySem.W.Looks M h (mroOf (.ref C)) cd.mro := by
  unfold PySem.W.mroIn at h
  cases z : PySem.W.clsIn K C with
  | none => rw [z] at h; cases h
  | some cd => exact ⟨cd, rfl, fun X A Q E s k q => wpAny_bind ((PySem.W.looks_clsIn X z) A _ E s k (wpAny_pure q))⟩
theorem cls_at {D : Addr} {cdD : ClassData} {h : Heap} (X : K.In h) (e : PySem.W.clsIn K D = some cdD) : ∃ oD, h.get? D = some oD ∧ oD.data = .cls cdD := by
  unfold PySem.W.clsIn at e
  split at e
  · rename_i c d cd' sl ho
    cases e
    exact ⟨_, X _ _ ho, rfl⟩
  · cases e
/-- super().__init__ looked up: the super object stands -/
theorem super_first {X : Cx} {a C : Addr} {fd : FuncData} {cda : Addr} {body : List Stmt} {p0 p1 p2 p4 : Pos} {es : List Expr} {pl : Sem Bool} {H1 : Hp} {s1 : Shared} {Q : Value → Shared → Prop} {E : Value → Shared → Prop} {v1 : V}
    (hX : X = iniCx P w K mg base q sc f (.ref cda) cc A outer s H) (S : IniSc sc) (I : Inv X [] [some (.ref a), some v1] H1 s1) (ha : H1 a = some (exo a C none)) (TC : IniC K C D) (TF : IniF P K mg f fd cda cc D)
    (he : eval (.Call (.Attribute (.Call (.Name "super" p0) [] [] p1) "__init__" p2) es [] p4) X.env = (do
      let ov ← attributeBase (.Call (.Name "super" p0) [] [] p1) "__init__" X.env (eval (.Call (.Name "super" p0) [] [] p1) X.env)
      standAt p2.atName
      let (f, first) ← holding [ov] (getMethod ov "__init__" pl)
      callWith p4 f first (backTo p4 (starEach es X.env)) []))
    (h : ∀ so s2, Inv X [] [some (.ref a), some v1] H1 s2 → s2.heap.get? so = some (PySem.W.ks_superObj D a C) → a ≠ C →
      wpAny (model P w) X.A (getMethod (.ref so) "__init__" pl) (fun fx s3 => wpAny (model P w) X.A (callWith p4 fx.1 fx.2 (backTo p4 (starEach es X.env)) []) Q E s3) E s2) :
    PySem.wpAt (model P w) X.A (.func body X.env) (eval (.Call (.Attribute (.Call (.Name "super" p0) [] [] p1) "__init__" p2) es [] p4) X.env) Q E s1 := by
  subst hX
  refine ks_wpAt_MethodCall ?_ he
  obtain ⟨oc, od, osl, hf⟩ := TF.fn
  obtain ⟨ar, hp, hself⟩ := TF.head
  obtain ⟨ccl, cdd, vs, ccs, file, tf, hcode, hvs, hfile⟩ := TF.code
  obtain ⟨cl, cld, csl, hcell⟩ := TF.cell
  obtain ⟨cdD, hD⟩ := TC.clD
  have KI : K.In s1.heap := I.kIn
  obtain ⟨oD, hD1, hD2⟩ := cls_at KI hD
  obtain ⟨t1, hoa⟩ := exo_at I.hok ha
  obtain ⟨m, hn, hl⟩ := I.loc
  obtain ⟨u, ru, lk⟩ := hl 0 "self" (.ref a) rfl rfl (.inl S.self)
  obtain rfl : u = Value.ref a := ru
  have hm : m ("self" : Str) = some (.ref a) := by
    rcases lk with ⟨_, e⟩ | ⟨e, _⟩
    · exact e
    · have e : sc.names.lookup ("self" : Str) = some .cell ∨ sc.names.lookup ("self" : Str) = some .free := e
      rw [S.self] at e
      rcases e with e | e <;> cases e
  obtain ⟨mb, b1, b2⟩ := I.mod.blt
  refine ks_wpAt_super_base (env := ksEnv q sc s.heap.objs.size f (.ref cda) cc) S.sup S.cls (by decide) rfl (KI _ _ hf) rfl hp rfl (KI _ _ hcode) rfl hvs hfile TF.top ?_
  refine PySem.W.ks_loadName_global S.kind S.sup (Calls.loadGlobal_builtin (env := ksEnv q sc s.heap.objs.size f (.ref cda) cc) (I.mod.glob.keeps I.bk) TF.sup (b1.keeps I.bk) ((b2 _ (by decide)).trans Boot.«super») ⟨rfl, ?_⟩)
  refine wpAny_loadName_free S.kind S.cls rfl ⟨_, KI _ _ hcell, rfl⟩ ?_
  refine wpAny_loadName_local S.kind (by rw [hself]; exact S.self) hn (by rw [hself]; exact hm) ?_
  refine ks_wpAny_isType_cls hD1 hD2 ⟨rfl, ?_⟩
  obtain ⟨hp1, g, d, tk, os⟩ := s1
  refine ks_wpAny_call_super hD1 hD2 hoa rfl (fun c e => by cases e) (PySem.W.looks_mroIn KI TC.sub) (fun h' e k => ?_)
  have aC : a ≠ C := by
    rintro rfl
    obtain ⟨nm, q1, N, bs, bm, sn, sub, ab, col, dd, k0, k1, k2, k3, k5, hC, _⟩ := TC.ox.cls
    have := KI _ _ hC
    rw [hoa] at this
    cases this
  exact h _ _ (I.kept (t' := tk) k) e aC
end
end MP

namespace MP
open PySem PySem.Spec PyProof.Rows L2
open PySem.W (ksEnv ksFn)

/-! ### what such an __init__ does -/
def spIn (C : Addr) (n : Nat) : Sp := fun vs H Q _ => ∃ (a : Addr) (v : V), vs = [.ref a, v] ∧ H a = some (exo a C none) ∧
  ∀ (d : Addr) (fs : List (Str × V)) (H2 : Hp), H d = none → d ≠ a → H2 a = some (exo a C (some d)) → H2 d = some (exd d fs) → fs.lookup ("place" : Str) = some v → fs.length ≤ n → (∀ b, b ≠ a → b ≠ d → H2 b = H b) → Q .non H2
theorem spIn_imp {K : PySem.W.Frag} {C : Addr} {n : Nat} {vs : List V} {H : Hp} {Q : VK} {E : XK} (h : spIni K C vs H Q E) : spIn C n vs H Q E := by
  obtain ⟨a, v, e1, e2, h⟩ := h
  exact ⟨a, v, e1, e2, fun d fs H2 h1 h2 h3 h4 h5 _ h6 => h d fs H2 h1 h2 h3 h4 h5 h6⟩
section
variable {P : Program} {w : World} {K : PySem.W.Frag} {mg : Str → Option Value} {base : Heap} {q : Str} {sc : Scope} {f cc D C : Addr} {cda : Addr} {A : Around} {outer : List Env} {s : Shared} {H : Hp}
theorem ini_arg {X : Cx} {σ0 : Option V} {v1 : V} {H1 : Hp} {s1 : Shared} {p3 : Pos} {Q : Value → Shared → Prop} {E : Value → Shared → Prop} {pins : List (Addr × Obj)} (hX : X = iniCx P w K mg base q sc f (.ref cda) cc A outer s H) (S : IniSc sc) (I : Inv X pins [σ0, some v1] H1 s1)
    (h : ∀ u, RelV v1 u → Q u s1) : wpAny (model P w) X.A (eval (.Name "place" p3) X.env) Q E s1 := by
  subst hX
  obtain ⟨m, hn, hl⟩ := I.loc
  obtain ⟨u, ru, lk⟩ := hl 1 "place" v1 rfl rfl (.inl S.place)
  have hm : m ("place" : Str) = some u := by
    rcases lk with ⟨_, e⟩ | ⟨e, _⟩
    · exact e
    · have e : sc.names.lookup ("place" : Str) = some .cell ∨ sc.names.lookup ("place" : Str) = some .free := e
      rw [S.place] at e
      rcases e with e | e <;> cases e
  exact wpAny_Name (wpAny_loadName_local S.kind S.place hn hm (h u ru)) (by decide)
/-- super().__init__(place), the next class's one a def of the text -/
theorem sub_first {X : Cx} {a f2 : Addr} {fd fd2 : FuncData} {body : List Stmt} {p0 p1 p2 p3 p4 : Pos} {pl : Sem Bool} {H1 : Hp} {s1 : Shared} {Q : Value → Shared → Prop} {E : Value → Shared → Prop} {v1 : V} {k n : Nat}
    (hX : X = iniCx P w K mg base q sc f (.ref cda) cc A outer s H) (S : IniSc sc) (I : Inv X [] [some (.ref a), some v1] H1 s1) (ha : H1 a = some (exo a C none)) (TC : IniC K C D) (TF : IniF P K mg f fd cda cc D)
    (hn2 : PySem.W.ks_superIn K C D "__init__" = some (some (.ref f2))) (ht2 : PySem.W.typeIn K (.ref f2) = some (.type "function")) (hf2 : PySem.W.fnIn K f2 = true) (F2 : FnOk P w K mg base (L2.CX P w) k f2 fd2 ["self", "place"] (spIn C n)) (hb2 : Binds K fd2 ["self", "place"] []) (hr : Room k X.A)
    (he : eval (.Call (.Attribute (.Call (.Name "super" p0) [] [] p1) "__init__" p2) [.Name "place" p3] [] p4) X.env = (do
      let ov ← attributeBase (.Call (.Name "super" p0) [] [] p1) "__init__" X.env (eval (.Call (.Name "super" p0) [] [] p1) X.env)
      standAt p2.atName
      let (f, first) ← holding [ov] (getMethod ov "__init__" pl)
      callWith p4 f first (backTo p4 (starEach [.Name "place" p3] X.env)) []))
    (h : ∀ u s2 d fs H2, H1 d = none → d ≠ a → H2 a = some (exo a C (some d)) → H2 d = some (exd d fs) → fs.lookup ("place" : Str) = some v1 → fs.length ≤ n → (∀ b, b ≠ a → b ≠ d → H2 b = H1 b) → Inv X [] [some (.ref a), some v1] H2 s2 → Q u s2) :
    PySem.wpAt (model P w) X.A (.func body X.env) (eval (.Call (.Attribute (.Call (.Name "super" p0) [] [] p1) "__init__" p2) [.Name "place" p3] [] p4) X.env) Q E s1 := by
  refine super_first hX S I ha TC TF he fun so s2 I2 hso aC => ?_
  have hP : X.prog = P := by rw [hX]; rfl
  have hw : X.w = w := by rw [hX]; rfl
  have hK : X.K = K := by rw [hX]; rfl
  have KI : K.In s2.heap := hK ▸ I2.kIn
  obtain ⟨cd, hcd, hmro⟩ := ini_mro TC.sub
  have hal : PySem.W.alongIn K "__init__" ((cd.mro.dropWhile (· != .ref D)).drop 1) = some (some (.ref f2)) := by
    unfold PySem.W.ks_superIn at hn2
    rw [hcd] at hn2
    exact hn2
  obtain ⟨of, hof, hofc⟩ : ∃ of, s2.heap.get? f2 = some of ∧ of.cls = .type "function" := by
    have ht' : (K.lookup f2).map (·.cls) = some (.type "function") := ht2
    cases z : K.lookup f2 with
    | none => rw [z] at ht'; cases ht'
    | some of => rw [z] at ht'; exact ⟨of, KI _ _ z, Option.some.inj ht'⟩
  obtain ⟨hp2, g, d2, tk, os⟩ := s2
  refine ks_wpAny_getMethod_super hso (PySem.W.looks_opaque KI TC.any) (l₀ := cd.mro) (hmro KI) rfl KI hal hof hofc aC (by decide) ?_
  have k3 : ∀ b o, hp2.get? b = some o → (hp2.push (PySem.W.methodObj (.ref f2) (.ref a))).get? b = some o := fun b o e => Heap.get?_push_of_some _ e
  have I3 : Inv X [] [some (.ref a), some v1] H1 ⟨hp2.push (PySem.W.methodObj (.ref f2) (.ref a)), g, d2, tk + 1, os⟩ := I2.kept (t' := tk + 1) k3
  have hm : (hp2.push (PySem.W.methodObj (.ref f2) (.ref a))).get? hp2.objs.size = some (PySem.W.methodObj (.ref f2) (.ref a)) := Heap.get?_push_at rfl rfl
  have K3 : K.In (hp2.push (PySem.W.methodObj (.ref f2) (.ref a))) := hK ▸ I3.kIn
  show wpAny (model P w) X.A (callWith p4 (.ref hp2.objs.size) [] (backTo p4 (starEach [.Name "place" p3] X.env)) []) Q E _
  refine PySem.W.callWith_of (P := PySem.W.MethP K hp2.objs.size f2 (.ref a)) rfl (PySem.W.keeps_M hf2) (Calls.evalArgs_plain ?_)
  show wpAny _ _ (spliced ((false, eval (.Name "place" p3) X.env) :: backTo p4 (starEach [] X.env))) _ _ _
  refine Calls.spliced_cons (ini_arg hX S I3 fun u1 ru => ?_)
  refine Calls.spliced_nil ⟨⟨hm, K3⟩, ?_⟩
  show wpAny (model P w) X.A (call (.ref hp2.objs.size) [u1]) Q E _
  have e0 : Env0 P w K mg base X.A X.stack ⟨hp2.push (PySem.W.methodObj (.ref f2) (.ref a)), g, d2, tk + 1, os⟩ H1 := by
    have := I3.env0 (X := X)
    subst hX
    exact this
  refine wpAny_call (ks_codeAny_call_bound hm (codeAny_mono (F2.run X.A X.stack _ H1 ⟨[.ref a, u1], []⟩ [.ref a, u1] [.ref a, v1]
    (fun v H2 => ∃ d fs, H1 d = none ∧ d ≠ a ∧ H2 a = some (exo a C (some d)) ∧ H2 d = some (exd d fs) ∧ fs.lookup ("place" : Str) = some v1 ∧ fs.length ≤ n ∧ ∀ b, b ≠ a → b ≠ d → H2 b = H1 b) (fun _ _ _ => False) hr e0 (hb2 _ [.ref a, u1] K3 rfl) (.cons rfl (.cons ru .nil))
    ⟨a, v1, rfl, ha, fun d fs H2 h1 h2 h3 h4 h5 h6 h7 => ⟨d, fs, h1, h2, h3, h4, h5, h6, h7⟩⟩) fun r s' hq => ?_))
  cases r with
  | error er =>
    obtain ⟨_, _, _, _, _, _, _, _, _, _, _, _, z⟩ := hq
    exact z.elim
  | ok fl =>
    cases fl with
    | ret u =>
      subst hX
      obtain ⟨v, H2, J, rv, d, fs, h1, h2, h3, h4, h5, h6, h7⟩ := I3.after hq
      exact h _ _ d fs H2 h1 h2 h3 h4 h5 h6 h7 J
    | next => exact False.elim hq
    | brk => exact False.elim hq
    | cont => exact False.elim hq
/-- ValueError.__init__, bound, called -/
theorem mw_run {X : Cx} {pins : List (Addr × Obj)} {σ : L2.St} {H1 : Hp} {s1 : Shared} {a u : Addr} {us : List Value} {B : Around} {Q E : Value → Shared → Prop} (T : OexC X.K C) (I : Inv X pins σ H1 s1) (ha : H1 a = some (exo a C none)) (hu : s1.heap.get? u = some (PySem.W.kxs_mw "ValueError.__init__" a)) (hl : us.length ≤ sizeLine)
    (h : ∀ s2, Inv X pins σ H1 s2 → Q .none s2) : wpAny (model X.prog X.w) B (call (.ref u) us) Q E s1 := by
  obtain ⟨nm, q1, N, bs, bm, sn, sub, ab, col, dd, k0, k1, k2, k3, k5, hC, hbm⟩ := T.cls
  obtain ⟨t1, ho⟩ := exo_at I.hok ha
  have FB := F.excBase_ValueError
  have KC := I.kIn _ _ hC
  obtain ⟨hh, g, d, tk, os⟩ := s1
  have same : upd H1 a (exo a C none) = H1 := funext fun b => by
    by_cases hb : b = a
    · rw [hb, upd_same]; exact ha.symm
    · exact upd_ne hb
  refine wpAny_call (codeAny_of_tree ?_)
  show wpAny _ B.in1 (callAny (.ref u) ⟨us, []⟩) _ _ _
  simp only [callAny]
  refine wpAny_bind (wpAny_load hu ?_)
  have e1 : (Value.type "method-wrapper" == Value.type "method" || Value.type "method-wrapper" == Value.type "builtin_function_or_method" || Value.type "method-wrapper" == Value.type "method-wrapper") = true := by decide
  simp only [PySem.W.kxs_mw, e1, if_true]
  refine PySem.W.KFB.if_so (by decide) (wpAny_bind (PySem.W.check_bound_init FB.toExcCallFacts KC ho rfl (wpAny_bind (wpAny_pure (wpAny_pure ⟨plainId_quiet FB.init.plain _, codeAny_builtin FB.initEntry ?_⟩)))))
  refine PySem.W.exc_init_tree (cls := .ref C) (t0 := t1) (dv := none) (c2 := .none) (c3 := .none) (b4 := .bool false) ho hl fun h' kk hx ht => ?_
  have J := I.write (t' := tk) (x := a) (e := a) (o := exo a C none) (by rw [ha]; exact True.intro) (.inl rfl) kk ⟨_, hx⟩ (exo_ok hx)
  rw [same] at J
  exact h _ J
theorem base_first {X : Cx} {a : Addr} {fd : FuncData} {body : List Stmt} {p0 p1 p2 p3 p4 : Pos} {pl : Sem Bool} {H1 : Hp} {s1 : Shared} {Q : Value → Shared → Prop} {E : Value → Shared → Prop} {v1 : V}
    (hX : X = iniCx P w K mg base q sc f (.ref cda) cc A outer s H) (S : IniSc sc) (I : Inv X [] [some (.ref a), some v1] H1 s1) (ha : H1 a = some (exo a C none)) (TC : IniC K C D) (TF : IniF P K mg f fd cda cc D)
    (hn2 : PySem.W.ks_superIn K C D "__init__" = some (some (.builtin "ValueError.__init__")))
    (he : eval (.Call (.Attribute (.Call (.Name "super" p0) [] [] p1) "__init__" p2) [.Name "place" p3] [] p4) X.env = (do
      let ov ← attributeBase (.Call (.Name "super" p0) [] [] p1) "__init__" X.env (eval (.Call (.Name "super" p0) [] [] p1) X.env)
      standAt p2.atName
      let (f, first) ← holding [ov] (getMethod ov "__init__" pl)
      callWith p4 f first (backTo p4 (starEach [.Name "place" p3] X.env)) []))
    (h : ∀ s2, Inv X [] [some (.ref a), some v1] H1 s2 → Q .none s2) :
    PySem.wpAt (model P w) X.A (.func body X.env) (eval (.Call (.Attribute (.Call (.Name "super" p0) [] [] p1) "__init__" p2) [.Name "place" p3] [] p4) X.env) Q E s1 := by
  refine super_first hX S I ha TC TF he fun so s2 I2 hso aC => ?_
  subst hX
  have KI : K.In s2.heap := I2.kIn
  obtain ⟨cd, hcd, hmro⟩ := ini_mro TC.sub
  have hal : PySem.W.alongIn K "__init__" ((cd.mro.dropWhile (· != .ref D)).drop 1) = some (some (.builtin "ValueError.__init__")) := by
    unfold PySem.W.ks_superIn at hn2
    rw [hcd] at hn2
    exact hn2
  obtain ⟨t1, hoa⟩ := exo_at I2.hok ha
  have ty : PySem.W.Looks (model P w) s2.heap (typeOf (.ref a)) (.ref C) := fun A Q E s k q => wpAny_typeOf_ref (k _ _ hoa) q
  have hI : PySem.W.Looks (model P w) s2.heap (isInstance (.ref a) (.type "ValueError")) true := ty.andThen (PySem.W.looks_subIn KI TC.val)
  obtain ⟨hp2, g, d2, tk, os⟩ := s2
  refine PySem.W.kxs_getMethod PySem.W.kxs_ValueError hso (PySem.W.looks_opaque KI TC.any) (l₀ := cd.mro) (hmro KI) rfl KI hal hI aC (by decide) ?_
  have I3 := I2.kept (t' := tk + 1) (h' := hp2.push (PySem.W.kxs_mw "ValueError.__init__" a)) fun b o e => Heap.get?_push_of_some _ e
  have hm : (hp2.push (PySem.W.kxs_mw "ValueError.__init__" a)).get? hp2.objs.size = some (PySem.W.kxs_mw "ValueError.__init__" a) := Heap.get?_push_at rfl rfl
  refine PySem.W.kxs_callWith (i := "ValueError.__init__") (x := a) rfl (Calls.evalArgs_plain ?_)
  show wpAny _ _ (spliced ((false, eval (.Name "place" p3) _) :: backTo p4 (starEach [] _))) _ _ _
  refine Calls.spliced_cons (ini_arg rfl S I3 fun u1 ru => ?_)
  refine Calls.spliced_nil ⟨hm, ?_⟩
  exact mw_run (X := iniCx P w K mg base q sc f (.ref cda) cc A outer s H) TC.ox I3 ha hm (by rw [sizeLine_eq]; show 1 ≤ _; decide) h
end
end MP

namespace MP
open PySem PySem.Spec PyProof.Rows L2
open PySem.W (ksEnv ksFn)

/-! ### the __init__ defs' promises -/
abbrev sSup (p0 p1 p2 p3 p4 p5 : Pos) : Stmt := .Expr (.Call (.Attribute (.Call (.Name "super" p0) [] [] p1) "__init__" p2) [.Name "place" p3] [] p4) p5
abbrev sNam (f nm : Str) (p0 p1 p2 p3 : Pos) (j : Nat) : Stmt := .Assign [.Attribute (.Name "self" p0) f p1] (.Constant (.str nm) j p2) p3
abbrev sPla (p0 p1 p2 p3 : Pos) : Stmt := .Assign [.Attribute (.Name "self" p0) "place" p1] (.Name "place" p2) p3
/-- the call is made as a method's call -/
def SupOk (p0 p1 p2 p3 p4 : Pos) : Prop := ∃ pl : Env → Sem Bool, ∀ env, eval (.Call (.Attribute (.Call (.Name "super" p0) [] [] p1) "__init__" p2) [.Name "place" p3] [] p4) env = (do
      let ov ← attributeBase (.Call (.Name "super" p0) [] [] p1) "__init__" env (eval (.Call (.Name "super" p0) [] [] p1) env)
      standAt p2.atName
      let (f, first) ← holding [ov] (getMethod ov "__init__" (pl env))
      callWith p4 f first (backTo p4 (starEach [.Name "place" p3] env)) [])
section
variable {P : Program} {w : World} {K : PySem.W.Frag} {mg : Str → Option Value} {base : Heap} {qual : Str} {sc : Scope} {f cc D C : Addr} {cda : Addr} {params : Arguments} {dV kV doc pm ct oc : Value} {an od : Option Addr} {osl : Array (Option Value)}
theorem no_inter {env : Env} (h : env.scope.kind = .function) : interactive env = false := by
  unfold interactive
  rw [h]
  rfl
theorem ini_end {X : Cx} {A : Around} {outer : List Env} {s s' : Shared} {H : Hp} {Q : VK} {fl : Flow} (hX : X = iniCx P w K mg base qual sc f (.ref cda) cc A outer s H) (h : SP X [] ⟨fun _ H' => Q .non H', fun _ _ => False, fun _ _ => False, fun _ _ => False⟩ fl s') :
    fl = .next ∧ L2.CE outer P w H s Q .none s' := by
  subst hX
  cases fl with
  | next =>
    obtain ⟨σ', H', J, q⟩ := h
    exact ⟨rfl, .non, H', J.os, J.bare, J.base, J.hok, rfl, q⟩
  | brk => obtain ⟨_, _, _, z⟩ := h; exact z.elim
  | cont => obtain ⟨_, _, _, z⟩ := h; exact z.elim
  | ret v => obtain ⟨_, _, _, _, _, z⟩ := h; exact z.elim
theorem ps_nam {X : Cx} {A : Around} {outer : List Env} {s : Shared} {H : Hp} (hX : X = iniCx P w K mg base qual sc f (.ref cda) cc A outer s H) (S : IniSc sc) {g nm : Str} {p0 p1 p2 p3 : Pos} {j : Nat} : PS X (sNam g nm p0 p1 p2 p3 j) (tOst X.K g (tVar 0) (tC (.str nm))) := by
  subst hX
  exact ps_ost (pe_var (i := 0) rfl (.inl S.self)) pe_str
theorem ps_pla {X : Cx} {A : Around} {outer : List Env} {s : Shared} {H : Hp} (hX : X = iniCx P w K mg base qual sc f (.ref cda) cc A outer s H) (S : IniSc sc) {p0 p1 p2 p3 : Pos} : PS X (sPla p0 p1 p2 p3) (tOst X.K "place" (tVar 0) (tVar 1)) := by
  subst hX
  exact ps_ost (pe_var (i := 0) rfl (.inl S.self)) (pe_var (i := 1) rfl (.inl S.place))
theorem sub_fn {p0 p1 p2 p3 p4 p5 q0 q1 q2 q3 : Pos} {j : Nat} {nm : Str} {k n : Nat} {f2 : Addr} {fd2 : FuncData} (hn : n ≤ 800) (so : SupOk p0 p1 p2 p3 p4)
    (lk : K.lookup f = some ⟨oc, od, .func (ksFn "__init__" qual params [sSup p0 p1 p2 p3 p4 p5, sNam "name" nm q0 q1 q2 q3 j] sc dV kV doc pm an (.ref cda) ct cc), osl⟩) (hcd : PySem.W.codeIn K (.ref cda) qual = true) (S : IniSc sc) (TC : IniC K C D)
    (TF : IniF P K mg f (ksFn "__init__" qual params [sSup p0 p1 p2 p3 p4 p5, sNam "name" nm q0 q1 q2 q3 j] sc dV kV doc pm an (.ref cda) ct cc) cda cc D)
    (hn2 : PySem.W.ks_superIn K C D "__init__" = some (some (.ref f2))) (ht2 : PySem.W.typeIn K (.ref f2) = some (.type "function")) (hf2 : PySem.W.fnIn K f2 = true) (F2 : FnOk P w K mg base (L2.CX P w) k f2 fd2 ["self", "place"] (spIn C n)) (hb2 : Binds K fd2 ["self", "place"] []) :
    FnOk P w K mg base (L2.CX P w) (k + 1) f (ksFn "__init__" qual params [sSup p0 p1 p2 p3 p4 p5, sNam "name" nm q0 q1 q2 q3 j] sc dV kV doc pm an (.ref cda) ct cc) ["self", "place"] (spIn C (n + 1)) := by
  refine ⟨fun vs H Q E ⟨a, v, e, _⟩ => by rw [e]; rfl, fun A outer s H args us vs Q E hr e0 hb r hsp => ?_⟩
  obtain ⟨a, v, rfl, ha, hq⟩ := hsp
  obtain ⟨pl, hpl⟩ := so
  match us, r with
  | [u0, u1], .cons r0 (.cons r1 .nil) =>
    have KX : K.In s.heap := e0.mod.kin.keeps fun b o e => (e0.bs b o e).1
    have lim : s.heap.NoLimit := e0.mod.nolimit.keeps fun b o e => (e0.bs b o e).1
    obtain ⟨cl, cld, csl, hc⟩ := TF.cell
    refine ks_codeAny_call_defAt hr.depth (KX _ _ lk) rfl lim (PySem.W.codeRec_of KX hcd) rfl hb S.nocell (fun x hx => ?_) (fun h₀ hns kp => ?_) S.co S.gen S.kind
    · have hx : x ∈ [(("self" : Str), u0), (("place" : Str), u1)] := hx
      rcases List.mem_cons.mp hx with e | hx
      · subst e; exact S.self
      · rcases List.mem_cons.mp hx with e | hx
        · subst e; exact S.place
        · cases hx
    · have I := inv_ini (q := qual) (f := f) (cd := .ref cda) (tk := s.toks + 2) S e0 hr.hd hc hns kp r0 r1
      refine ks_wpAt_execs_cons (ks_wpAt_Expr_any (env := ksEnv qual sc s.heap.objs.size f (.ref cda) cc) (sub_first (X := iniCx P w K mg base qual sc f (.ref cda) cc A outer s H) rfl S I ha TC TF hn2 ht2 hf2 F2 hb2 (hr.deeper _) (hpl _) fun u s2 d fs H2 h1 h2 h3 h4 h5 h6 h7 J => ?_) (no_inter S.kind))
      refine PySem.wpAt_of_wpAny (wpAny_mono ((pss_one (ps_nam (X := iniCx P w K mg base qual sc f (.ref cda) cc A outer s H) rfl S)).run [] s2 _ H2 ⟨fun _ H' => Q .non H', fun _ _ => False, fun _ _ => False, fun _ _ => False⟩ J ?_) (fun fl s' z => by obtain ⟨rfl, y⟩ := ini_end rfl z; exact y) fun _ _ z => z.elim)
      refine ⟨.ref a, rfl, a, C, rfl, TC.ox, TC.name, .inr ⟨d, fs, h3, h4, by omega, ?_⟩⟩
      exact hq d (("name", .str nm) :: fs) _ h1 h2 (by rw [upd_ne (Ne.symm h2)]; exact h3) upd_same (by rw [lookup_put, if_neg (by decide)]; exact h5) (by rw [List.length_cons]; omega) fun b hb hd => by rw [upd_ne hd]; exact h7 b hb hd
  | [], r => cases r
  | [u0], .cons _ r => cases r
  | _ :: _ :: _ :: _, .cons _ (.cons _ r) => cases r
theorem base_fn {p0 p1 p2 p3 p4 p5 q0 q1 q2 q3 : Pos} {j : Nat} {nm : Str} {r0 r1 r2 r3 : Pos} {k : Nat} (so : SupOk p0 p1 p2 p3 p4)
    (lk : K.lookup f = some ⟨oc, od, .func (ksFn "__init__" qual params [sSup p0 p1 p2 p3 p4 p5, sPla r0 r1 r2 r3, sNam "name" nm q0 q1 q2 q3 j] sc dV kV doc pm an (.ref cda) ct cc), osl⟩) (hcd : PySem.W.codeIn K (.ref cda) qual = true) (S : IniSc sc) (TC : IniC K C D)
    (TF : IniF P K mg f (ksFn "__init__" qual params [sSup p0 p1 p2 p3 p4 p5, sPla r0 r1 r2 r3, sNam "name" nm q0 q1 q2 q3 j] sc dV kV doc pm an (.ref cda) ct cc) cda cc D)
    (hn2 : PySem.W.ks_superIn K C D "__init__" = some (some (.builtin "ValueError.__init__"))) :
    FnOk P w K mg base (L2.CX P w) (k + 1) f (ksFn "__init__" qual params [sSup p0 p1 p2 p3 p4 p5, sPla r0 r1 r2 r3, sNam "name" nm q0 q1 q2 q3 j] sc dV kV doc pm an (.ref cda) ct cc) ["self", "place"] (spIn C 2) := by
  refine ⟨fun vs H Q E ⟨a, v, e, _⟩ => by rw [e]; rfl, fun A outer s H args us vs Q E hr e0 hb r hsp => ?_⟩
  obtain ⟨a, v, rfl, ha, hq⟩ := hsp
  obtain ⟨pl, hpl⟩ := so
  match us, r with
  | [u0, u1], .cons z0 (.cons z1 .nil) =>
    have KX : K.In s.heap := e0.mod.kin.keeps fun b o e => (e0.bs b o e).1
    have lim : s.heap.NoLimit := e0.mod.nolimit.keeps fun b o e => (e0.bs b o e).1
    obtain ⟨cl, cld, csl, hc⟩ := TF.cell
    refine ks_codeAny_call_defAt hr.depth (KX _ _ lk) rfl lim (PySem.W.codeRec_of KX hcd) rfl hb S.nocell (fun x hx => ?_) (fun h₀ hns kp => ?_) S.co S.gen S.kind
    · have hx : x ∈ [(("self" : Str), u0), (("place" : Str), u1)] := hx
      rcases List.mem_cons.mp hx with e | hx
      · subst e; exact S.self
      · rcases List.mem_cons.mp hx with e | hx
        · subst e; exact S.place
        · cases hx
    · have I := inv_ini (q := qual) (f := f) (cd := .ref cda) (tk := s.toks + 2) S e0 hr.hd hc hns kp z0 z1
      refine ks_wpAt_execs_cons (ks_wpAt_Expr_any (env := ksEnv qual sc s.heap.objs.size f (.ref cda) cc) (base_first (X := iniCx P w K mg base qual sc f (.ref cda) cc A outer s H) rfl S I ha TC TF hn2 (hpl _) fun s2 J => ?_) (no_inter S.kind))
      refine PySem.wpAt_of_wpAny (wpAny_mono ((pss_cons (ps_pla (X := iniCx P w K mg base qual sc f (.ref cda) cc A outer s H) rfl S) (pss_one (ps_nam rfl S))).run [] s2 _ H ⟨fun _ H' => Q .non H', fun _ _ => False, fun _ _ => False, fun _ _ => False⟩ J ?_) (fun fl s' z => by obtain ⟨rfl, y⟩ := ini_end rfl z; exact y) fun _ _ z => z.elim)
      refine ⟨v, rfl, .ref a, rfl, a, C, rfl, TC.ox, TC.place, .inl ⟨ha, fun d hd da => ⟨.ref a, rfl, a, C, rfl, TC.ox, TC.name, .inr ⟨d, [("place", v)], upd_same, by rw [upd_ne da, upd_same], (by show 1 ≤ 900; decide), ?_⟩⟩⟩⟩
      refine hq d [("name", .str nm), ("place", v)] _ hd da (by rw [upd_ne (Ne.symm da), upd_same]) upd_same rfl (Nat.le_refl 2) fun b hb hd => by rw [upd_ne hd, upd_ne hb, upd_ne hd]
  | [], r => cases r
  | [u0], .cons _ r => cases r
  | _ :: _ :: _ :: _, .cons _ (.cons _ r) => cases r
end
end MP

namespace MP
open PySem PySem.Spec PyProof.Rows L2

/-! ### raise C(e) -/
def sExc (c : Str) (f : Ex) : Es := fun ρ => (f ρ).thenS fun x => .exc c x.1
section
variable {K : PySem.W.Frag} {τ : LTab} {H : Hp} {σ : L2.St}
theorem t_sExc {mg : Str → Option Value} {W : WX} {c : Str} {C : Addr} {f : Ex} {D : Ends} (hm : mg c = some (.ref C)) (h : tOfS K τ (WiOf mg K τ W) (sExc c f) D σ H) :
    tMkO C (spIni K C) [] (tCons (tOf K τ (WiOf mg K τ W) f) tNil) σ H fun cls d H' => W cls d σ H' := by
  obtain ⟨F, M, ρ, S, h⟩ := h
  refine ⟨F, M, ρ, S, ?_⟩
  unfold sExc at h
  cases q : f ρ with
  | bad => rw [q] at h; exact h
  | exc c p => rw [q] at h; exact h
  | ok x =>
    obtain ⟨p, ρ1⟩ := x
    rw [q, R.thenS_ok] at h
    have h : WiOf mg K τ W F c p := h
    refine fun v H1 M1 r1 S1 st1 => ⟨by show 1 ≤ 1000; decide, fun a ha => ⟨a, v, rfl, upd_same, fun d fs H2 hd da h3 h4 h5 h6 => ?_⟩⟩
    have hd1 : H1 d = none := by rw [upd_ne da] at hd; exact hd
    refine ⟨rfl, d, fs, h3, h4, hd1, ?_⟩
    have n : New H1 (upd (del H2 a) d (.xd fs)) := fun b o e => by
      rw [upd_ne (ne_of_none e hd1), del_ne (ne_of_none e ha), h6 b (ne_of_none e ha) (ne_of_none e hd1), upd_ne (ne_of_none e ha)]
      exact e
    have S2 := S1.new n
    exact h (.ref C) (some d) σ _ M1 ⟨C, d, fs, v, rfl, hm, rfl, upd_same, h5, r1.to n.step⟩ S2.keep S2.sub S2.rest S2.tab.1
end
section
variable {c : Cp} {τ : LTab} {E : CE} {X : Cx} {W : WX}
def rS (c : Cp) (E : CE) : Stmt → Option Es
  | .Raise (some (.Call (.Name x _) [e] [] _)) none _ => if x ∈ E.er ∧ isG' E x = true ∧ isStar e = false then (mE c E e).map (sExc x) else none
  | _ => none
theorem rS_ok (ok : CpOk c) (g : Good τ E X W) {st : Stmt} {f : Es} (h : rS c E st = some f) : PS X st (tOfS X.K τ (WiOf X.mg X.K τ W) f) := by
  unfold rS at h
  split at h
  · rename_i x p e pos pos2
    by_cases hc : x ∈ E.er ∧ isG' E x = true ∧ isStar e = false
    · rw [if_pos hc] at h
      obtain ⟨h1, h2, h3⟩ := hc
      obtain ⟨a1, a2, a3⟩ := g.gl h2
      obtain ⟨k, C, EK, hr⟩ := g.er x h1
      obtain ⟨fI, fd, ps, i1, i2, i3, i4⟩ := EK.init
      cases q : mE c E e with
      | none => rw [q] at h; cases h
      | some f1 =>
        rw [q] at h
        cases h
        have pa : PA X [e] (tCons (tOf X.K τ (WiOf X.mg X.K τ W) f1) tNil) := pa_cons (mE_ok ok g q) pa_nil (star_of h3)
        exact ps_imp (ps_raise g.calm g.tk (pmk_oex EK.ox i1 i2 i3 hr i4 .nil (fun _ _ _ _ _ _ _ z => by
          obtain ⟨_, _, _, _, _, _, _, _, _, _, _, _, z⟩ := z
          exact z.elim) a1 EK.cl pa a2 (star_of h3) rfl)) fun D σ H q => t_sExc EK.cl q
    · rw [if_neg hc] at h; cases h
  · cases h
def aM (c : Cp) (E : CE) : Expr → Option Em
  | .Call (.Name x _) [l] [] _ => mAsk c E x l
  | _ => none
theorem aM_ok (ok : CpOk c) (g : Good τ E X W) {e : Expr} {f : Em} (h : aM c E e = some f) : PE X e (tOfM X.K τ (WiOf X.mg X.K τ W) f) := by
  unfold aM at h
  split at h
  · exact mAsk_ok ok g h
  · cases h
end
end MP

namespace MP
open PySem PySem.Spec PyProof.Rows L2
open PySem.W (ksEnv ksFn)

/-! ### the errors' facts, by one check each -/
def oxB (K : PySem.W.Frag) (C : Addr) : Bool := (match K.lookup C with
  | some ⟨.type t, _, .cls ⟨_, _, .ref C' :: bm, _, _, true, _, _, _, _, false⟩, ⟨[_, _, _, _, some (.builtin n), _]⟩⟩ => t == "type" && (C' == C && (PySem.HandSPX.refsVE bm && n == "ValueError.__new__"))
  | _ => false) && (decide (PySem.W.findIn K (.ref C) "__setattr__" = some (some (.builtin "object.__setattr__"))) && (decide (PySem.W.subIn K (.ref C) (.type "BaseException") = some true) && (decide (PySem.W.typeIn K (.ref C) = some (.type "type")) && PySem.W.keepIn K (.ref C))))
theorem oxB_ok {K : PySem.W.Frag} {C : Addr} (h : oxB K C = true) : OexC K C := by
  unfold oxB at h
  rw [Bool.and_eq_true, Bool.and_eq_true, Bool.and_eq_true, Bool.and_eq_true, decide_eq_true_eq, decide_eq_true_eq, decide_eq_true_eq] at h
  obtain ⟨h1, h2, h3, h4, h5⟩ := h
  refine ⟨?_, h2, h3, h4, h5⟩
  split at h1
  · rename_i e
    simp only [Bool.and_eq_true, beq_iff_eq] at h1
    obtain ⟨rfl, rfl, h6, rfl⟩ := h1
    exact ⟨_, _, _, _, _, _, _, _, _, _, _, _, _, _, _, e, h6⟩
  · cases h1
def iniB (K : PySem.W.Frag) (C D : Addr) : Bool := oxB K C && (decide (PySem.W.mroIn K C (.ref D) = some true) && ((PySem.W.clsIn K D).isSome && (decide (PySem.W.nsIn K cStatics "thirdparty.any" = some none) && (decide (PySem.W.findIn K (.ref C) "place" = some none) &&
  (decide (PySem.W.findIn K (.ref C) "name" = some none) && decide (PySem.W.subIn K (.ref C) (.type "ValueError") = some true))))))
theorem iniB_ok {K : PySem.W.Frag} {C D : Addr} (h : iniB K C D = true) : IniC K C D := by
  unfold iniB at h
  simp only [Bool.and_eq_true, decide_eq_true_eq] at h
  obtain ⟨h1, h2, h3, h4, h5, h6, h7⟩ := h
  exact ⟨oxB_ok h1, h2, Option.isSome_iff_exists.mp h3, h4, h5, h6, h7⟩
def iniFB (file : Str) (K : PySem.W.Frag) (f cda cc D : Addr) : Bool := (match K.lookup cda with
  | some ⟨_, _, .fields vs, _⟩ => (match (vs[2]? : Option Value) with
    | some (.str x _) => file == x
    | _ => false)
  | _ => false) && ((match K.lookup cc with
  | some ⟨_, _, .cell (some (.ref D')), _⟩ => D' == D
  | _ => false) && (decide (PySem.W.typeIn K (.ref f) = some (.type "function")) && PySem.W.fnIn K f))
theorem iniF_ok {P : Program} {K : PySem.W.Frag} {mg : Str → Option Value} {f cda cc D : Addr} {fd : FuncData} {oc : Value} {od : Option Addr} {osl : Array (Option Value)} (h : iniFB P.main.file K f cda cc D = true) (l : K.lookup f = some ⟨oc, od, .func fd, osl⟩)
    (hd : ∃ ar, (fd.params.posonlyargs ++ fd.params.args).head? = some ar ∧ ar.arg = ("self" : Str)) (sup : mg "super" = none) (top : (P.main.scope.names.lookup ("super" : Str)).isSome = false) :
    IniF P K mg f fd cda cc D ∧ PySem.W.typeIn K (.ref f) = some (.type "function") ∧ PySem.W.fnIn K f = true := by
  unfold iniFB at h
  rw [Bool.and_eq_true, Bool.and_eq_true, Bool.and_eq_true, decide_eq_true_eq] at h
  obtain ⟨h1, h2, h3, h4⟩ := h
  refine ⟨⟨⟨_, _, _, l⟩, hd, ?_, ?_, sup, top⟩, h3, h4⟩
  · split at h1
    · rename_i e
      split at h1
      · rename_i e2
        exact ⟨_, _, _, _, _, _, e, e2, h1⟩
      · cases h1
    · cases h1
  · split at h2
    · rename_i e
      have := eq_of_beq h2
      subst this
      exact ⟨_, _, _, e⟩
    · cases h2
theorem errK_of {P : Program} {w : World} {K : PySem.W.Frag} {mg : Str → Option Value} {base : Heap} {k n : Nat} {c : Str} {C f : Addr} {fd : FuncData} (hm : mg c = some (.ref C)) (ox : OexC K C) (hi : PySem.W.findIn K (.ref C) "__init__" = some (some (.ref f))) (ht : PySem.W.typeIn K (.ref f) = some (.type "function"))
    (F : FnOk P w K mg base (L2.CX P w) k f fd ["self", "place"] (spIn C n)) (hb : Binds K fd ["self", "place"] []) : ErrK P w K mg base k c C :=
  ⟨hm, ox, f, fd, _, hi, ht, F.imp fun vs H Q E => spIn_imp, hb⟩
/-! ### what asking defs know -/
def askB (K : PySem.W.Frag) (sg : Scope) (er hs : List (Str × Addr)) : Bool := (er.all fun p => xfB K p.2 && decide (PySem.W.findIn K (.ref p.2) "place" = some none)) &&
  hs.all fun q => decide (sg.names.lookup q.1 = some .globalImplicit) && (!(q.1 == ("__debug__" : Str)) && er.all fun p => decide (PySem.W.exmOne K (.ref p.2) (.ref q.2) = some (p.1 == q.1 || q.1 == ("PointwrightError" : Str))))
theorem askF_of {K : PySem.W.Frag} {mg : Str → Option Value} {sg : Scope} {er hsA : List (Str × Addr)} {hs : List (Str × Str)} (h1 : ∀ p ∈ er, mg p.1 = some (.ref p.2)) (h2 : ∀ p ∈ hsA, mg p.1 = some (.ref p.2)) (hB : askB K sg er hsA = true) (hm : hs.map (·.1) = hsA.map (·.1)) : AskF K mg sg (er.map (·.1)) hs := by
  unfold askB at hB
  simp only [Bool.and_eq_true, List.all_eq_true, decide_eq_true_eq, Bool.not_eq_true'] at hB
  obtain ⟨b1, b2⟩ := hB
  have inE : ∀ c ∈ er.map (·.1), ∀ C : Addr, mg c = some (.ref C) → (c, C) ∈ er := fun c hc C e => by
    obtain ⟨p, hp, rfl⟩ := List.mem_map.mp hc
    have := h1 p hp
    rw [e] at this
    cases this
    exact hp
  refine ⟨fun p hp => ?_, fun c hc C e => ?_⟩
  · have : p.1 ∈ hsA.map (·.1) := hm ▸ List.mem_map_of_mem hp
    obtain ⟨q, hq, e⟩ := List.mem_map.mp this
    obtain ⟨c1, c2, c3⟩ := b2 q hq
    rw [← e]
    exact ⟨c1, c2, q.2, h2 q hq, fun c hc C e => c3 _ (inE c hc C e)⟩
  · obtain ⟨c1, c2⟩ := b1 _ (inE c hc C e)
    exact ⟨xfB_ok c1, c2⟩
theorem askK_of {P : Program} {w : World} {K : PySem.W.Frag} {mg : Str → Option Value} {base : Heap} {er : List Str} {x a n : Str} {i : Nat} {hs : List (Str × Str)} {g : Addr} {pg : Arguments} {bg : List Stmt} {sg : Scope} {dV kV doc pm cdv ct oc : Value} {an od : Option Addr} {osl : Array (Option Value)} {Ng : List Str}
    (hm : mg x = some (.ref g)) (hk : PySem.W.keepIn K (.ref g) = true) (lk : K.lookup g = some ⟨oc, od, .func (PySem.W.fnOf x x pg bg sg dV kV doc pm an cdv ct), osl⟩) (hc : PySem.W.codeIn K cdv x = true) (hb : L2.Binds K (PySem.W.fnOf x x pg bg sg dV kV doc pm an cdv ct) [a] []) (S : FnScope Ng [a] sg)
    (h0 : Ng[0]? = some a) (hv : Vis sg a) (d1 : (a == ("__debug__" : Str)) = false) (d2 : (a == ("__classdict__" : Str)) = false) (hq : askQ a n bg = some hs) (F : AskF K mg sg er hs) (hi : Ng[i]? = some n) (hl : sg.names.lookup n = some .local) (e1 : (n == ("__debug__" : Str)) = false) (e2 : (n == ("__classdict__" : Str)) = false)
    (hst : ∀ f : Addr, (L2.start Ng [V.ref f])[0]? = some (some (V.ref f))) : AskK P w K mg base er x hs :=
  ⟨g, a, pg, bg, sg, dV, kV, doc, pm, cdv, ct, oc, an, od, osl, Ng, hm, hk, lk, hc, hb, S, h0, hv, d1, d2, fun X hP hw hK hM hB q => by
    subst hK hM
    exact ask_gives hq F S.nd hi hl e1 e2 hst⟩
/-- the first def of a class -/
def inC : Stmt → Stmt
  | .ClassDef _ _ _ b _ _ _ _ _ _ _ => b.getD 0 (.Pass ⟨0, 0, 0, 0⟩)
  | s => s
end MP

namespace MP
open PySem PySem.Spec PyProof.Rows L2

/-! ### x = {k: v}, k a tuple of ints and texts -/
def tDisT (tk tv : TE) : TE := fun σ H Q => ∀ p, H p = none → tk σ (upd H p (.dT [])) fun x H1 => tv σ H1 fun y H2 => H2 p = some (.dT []) ∧ ∃ (ks : List Key) (b : Addr), x = .ref b ∧ H2 b = some (.tup (ks.map kV)) ∧ Q (.ref p) (upd H2 p (.dT [(ks, y)]))
theorem wp_dict1 {P : Program} {w : World} {A : Around} {E : Value → Shared → Prop} {s : Shared} {env : Env} {k v : Expr} {pos : Pos} {Q : Value → Shared → Prop}
    (h : wpAny (model P w) A (eval k env) (fun kv s1 => wpAny (model P w) A (eval v env) (fun vv s2 => wpAny (model P w) A (dictSet s.heap.objs.size kv vv) (fun _ s3 => Q (.ref s.heap.objs.size) s3) E s2) E s1) E { s with heap := s.heap.push { cls := .type "dict", data := .dict #[] } }) :
    wpAny (model P w) A (eval (.Dict [some k] [v] pos) env) Q E s := by
  rw [arm_eval_Dict]
  have e : (evalEachOpt [some k] env).zip ((evalEach [v] env).map fun v => do let x ← v; standAt pos; pure x) = ([(eval k env, do let x ← eval v env; standAt pos; pure x)] : List (Sem Value × Sem Value)).map fun p => (some p.1, p.2) := rfl
  rw [e, dictDisplay_pairs _ (by simp) (by simp)]
  refine wpAny_bind (wpAny_standAt (wpAny_bind ?_))
  unfold subDict
  refine wpAny_bind (wpAny_alloc (wpAny_bind (wpAny_holding ?_)))
  rw [if_pos (by simp)]
  refine wpAny_bind ?_
  refine evalPairs_cons (wpAny_mono h (fun kv s1 h1 => wpAny_bind (wpAny_mono h1 (fun vv s2 h2 => wpAny_bind (wpAny_standAt (wpAny_pure (evalPairs_nil ?_)))) fun _ _ z => z)) fun _ _ z => z)
  refine wpAny_holding ?_
  rw [List.forIn_cons]
  refine wpAny_bind (wpAny_bind ?_)
  show wpAny _ _ (dictSet s.heap.objs.size kv vv >>= fun _ => pure (ForInStep.yield PUnit.unit)) _ _ _
  refine wpAny_bind (wpAny_mono h2 (fun _ s3 h3 => wpAny_pure ?_) fun _ _ z => z)
  show wpAny _ _ (forIn [] PUnit.unit _) _ _ _
  rw [List.forIn_nil]
  exact wpAny_pure (wpAny_pure (wpAny_pure (wpAny_pure h3)))
theorem d_set1T {X : Cx} {pins : List (Addr × Obj)} {σ : L2.St} {H : Hp} {s : Shared} {a b : Addr} {ks : List Key} {v : V} {r : Value} {A : Around} {E : Value → Shared → Prop} {Q : Unit → Shared → Prop} (hu : A.units + 1 < cLine) (I : Inv X pins σ H s) (e : H a = some (.dT [])) (eb : H b = some (.tup (ks.map kV))) (rv : RelV v r)
    (h : ∀ s', Inv X pins σ (upd H a (.dT [(ks, v)])) s' → Q () s') : wpAny (model X.prog X.w) A (dictSet a (.ref b) r) Q E s := by
  obtain ⟨z, hd, xs, rel, dd⟩ := dt_of I.hok e
  have hx : xs = [] := by cases rel; rfl
  subst hx
  refine wpAny_dictSet_heap (hsz := by show 0 ≤ _; omega) (show A.units < cLine by omega) (key_of I.hok eb) dd fun h' dd' hs => h _ ?_
  obtain ⟨q, es, ep, hq, h2, h3, h4, _, h5⟩ := dd'
  refine d_write I (by rw [e]; exact True.intro) hs ⟨q, hq⟩ ⟨by show 1 ≤ sizeLine; rw [sizeLine_eq]; decide, hd, _, ?_, q, es, ep, hq, h2, h3, h4, h5⟩
  refine .cons ⟨rfl, ?_, rv⟩ .nil
  show upd H a _ b = _
  rw [upd_ne (fun z => by rw [z, e] at eb; cases eb)]
  exact eb
theorem pe_disT {X : Cx} {k v : Expr} {tk tv : TE} {pos : Pos} (hu : X.A.units + 1 < cLine) (hk : PE X k tk) (hv : PE X v tv) : PE X (.Dict [some k] [v] pos) (tDisT tk tv) := by
  refine ⟨fun pins s σ H Q I q => wp_dict1 ?_⟩
  have hn := I.hok.fresh (Nat.le_refl s.heap.objs.size)
  have I1 := I.laid (a := s.heap.objs.size) (o := .dT []) (h' := s.heap.push { cls := .type "dict", data := .dict #[] }) (t' := s.toks) (fun _ _ q => Heap.get?_push_of_some _ q) (Nat.le_refl _) (dt_empty s.heap I.big)
  refine thn (hk.run pins _ σ _ _ I1 (q _ hn)) fun u s1 ⟨x, H1, I2, rx, q1⟩ => thn (hv.run pins s1 σ H1 _ I2 q1) fun w2 s2 ⟨y, H2, I3, ry, e, ks, b, ex, eb, q2⟩ => ?_
  subst ex
  cases (show u = Value.ref b from rx)
  exact d_set1T hu I3 e eb ry fun s' I4 => ⟨.ref s.heap.objs.size, _, I4, rfl, q2⟩
section
variable {K : PySem.W.Frag} {τ : LTab} {Wi : WiT} {F : Fr} {H H' : Hp} {M M' : Addr → Prop} {σ : L2.St} {ρ : Store}
def sDDT (i : Nat) (f g : Ex) : Es := fun ρ => (noX (f ρ)).thenS fun x => (noX (g x.2)).thenS fun y => if noBo y.2 i = true ∧ kOk true x.1 = true then .next (y.2.set i (.dc [(x.1, y.1)] true)) else .bad
theorem t_sDDT {i : Nat} {f g : Ex} {E : Ends} (h : tOfS K τ Wi (sDDT i f g) E σ H) : tAsg (tDisT (tOf K τ Wi0 f) (tOf K τ Wi0 g)) (gName i) E σ H := by
  obtain ⟨F, M, ρ, S, h⟩ := h
  unfold sDDT at h
  intro p hp
  have hn : ¬ F.M0 p := fun z => S.dom p (S.sub p z) hp
  obtain ⟨S1, st1, b1, no1⟩ := S.own1 (o' := .dT []) hp True.intro
  refine ⟨_, _, ρ, S1.inner (.inr rfl) no1, ?_⟩
  cases q : f ρ with
  | bad => rw [q] at h; exact h
  | exc c p => rw [q] at h; exact h.elim
  | ok x =>
    rw [q, noX_ok, R.thenS_ok] at h
    intro v H2 M2 rv S2 st2
    refine ⟨_, _, x.2, S2, ?_⟩
    cases q2 : g x.2 with
    | bad => rw [q2] at h; exact h
    | exc c p => rw [q2] at h; exact h.elim
    | ok y =>
      rw [q2, noX_ok, R.thenS_ok] at h
      intro u H3 M3 ru S3 st3
      by_cases hc : noBo y.2 i = true ∧ kOk true x.1 = true
      · rw [if_pos hc] at h
        obtain ⟨S4, m4, e4, no4⟩ := S1.outer hn S3
        have e4 : H3 p = some (.dT []) := e4.trans upd_same
        have ok := hc.2
        unfold kOk at ok
        cases q3 : kcd x.1 with
        | none => rw [q3] at ok; cases ok
        | some c =>
          rw [q3] at ok
          cases c with
          | inl k => cases ok
          | inr ks =>
            have hk : KTok = false := by simpa using ok
            have ek := kcd_inr q3
            have rv3 := rv.to st3
            rw [ek] at rv3
            obtain ⟨b, eb, hb⟩ := rep_tkey hk rv3
            refine ⟨e4, ks, b, eb, hb, ?_⟩
            obtain ⟨S5, st5, b5⟩ := S4.pokeO (o' := .dT [(ks, u)]) m4 hn e4 True.intro True.intro no4
            refine h _ _ _ (S5.setTop (.dc m4 hn (.t upd_same (by rw [ek]; rfl) (.cons (ru.to st5) .nil))) fun c q j z => by
              have e : c = p := q
              rw [e] at z
              exact no4 j (b5 j p z)) (((st1.trans st2).trans st3).trans st5)
      · rw [if_neg hc] at h; exact h.elim
end
section
variable {c : Cp} {τ : LTab} {E : CE} {X : Cx} {W : WX}
def oS (c : Cp) (E : CE) : Stmt → Option Es
  | .Assign [.Name x _] (.Dict [some k] [v] _) _ => (tgSlot E x).bind fun i => if E.xc.lookup x = some 1 then (mE c E k).bind fun f => (mE c E v).map fun g => sDDT i f g else none
  | _ => none
theorem tDisT_wi {Wi Wi' : WiT} {K : PySem.W.Frag} (hw : ∀ F c p, Wi F c p → Wi' F c p) {f g : Ex} {σ : L2.St} {H : Hp} {Q : VK} (h : tDisT (tOf K τ Wi f) (tOf K τ Wi g) σ H Q) : tDisT (tOf K τ Wi' f) (tOf K τ Wi' g) σ H Q := fun p hp => by
  obtain ⟨F, M, ρ, S, h⟩ := tOf_wi hw (h p hp)
  refine ⟨F, M, ρ, S, ?_⟩
  cases q : f ρ with
  | bad => rw [q] at h; exact h
  | exc c d => rw [q] at h; exact h
  | ok x =>
    rw [q] at h
    exact fun v H1 M1 r1 S1 st1 => tOf_wi hw (h v H1 M1 r1 S1 st1)
theorem oS_ok (ok : CpOk c) (g : Good τ E X W) {st : Stmt} {f : Es} (h : oS c E st = some f) : PS X st (tOfS X.K τ (WiOf X.mg X.K τ W) f) := by
  unfold oS at h
  split at h
  · rename_i x px k v dp pos
    cases q1 : tgSlot E x with
    | none => rw [q1] at h; cases h
    | some i =>
      rw [q1, Option.bind_some] at h
      obtain ⟨hi, hL, hf⟩ := g.tg q1
      by_cases hc : E.xc.lookup x = some 1
      · rw [if_pos hc] at h
        cases q2 : mE c E k with
        | none => rw [q2] at h; cases h
        | some fk =>
          rw [q2, Option.bind_some] at h
          cases q3 : mE c E v with
          | none => rw [q3] at h; cases h
          | some fv =>
            rw [q3] at h
            cases h
            have hu : X.A.units + 1 < cLine := by have := g.un; omega
            exact ps_imp (ps_set g.nd hi hL (pe_disT hu (mE_ok ok g q2) (mE_ok ok g q3)) (swap_none rfl) hf) fun D σ H q => fun p hp => tDisT_wi (fun _ _ _ z => z.elim) (t_sDDT q) p hp
      · rw [if_neg hc] at h; cases h
  · cases h
end
end MP

namespace MP
open PySem PySem.Spec PyProof.Rows L2

/-! ### the compiler, whole -/
def firstO {α : Type} : Option α → Option α → Option α
  | some x, _ => some x
  | none, b => b
theorem firstO_or {α : Type} {a b : Option α} {x : α} (h : firstO a b = some x) : a = some x ∨ b = some x := by
  cases a with
  | some y => exact .inl h
  | none => exact .inr h
def step2 (c : Cp) : Cp := ⟨fun E e => firstO (aM c E e) (firstO (wM c E e) (firstO (zM c E e) (firstO (mM c E e) (firstO (xM c E e) (yM c E e))))), fun E e => firstO (zT c E e) (firstO (mT c E e) (xT c E e)), fun E e => firstO (mIt c E e) (xI c E e), mTg c, fun E s => firstO (oS c E s) (firstO (rS c E s) (firstO (wS c E s) (firstO (zS c E s) (firstO (xS c E s) (mSt c E s))))), mSts c⟩
theorem step2_ok {c : Cp} (ok : CpOk c) : CpOk (step2 c) where
  M := fun g h => by
    rcases firstO_or h with h | h
    · exact aM_ok ok g h
    rcases firstO_or h with h | h
    · exact wM_ok ok g h
    rcases firstO_or h with h | h
    · exact zM_ok ok g h
    rcases firstO_or h with h | h
    · exact mM_ok ok g h
    rcases firstO_or h with h | h
    · exact xM_ok ok g h
    · exact yM_ok ok g h
  T := fun g h => (firstO_or h).elim (zT_ok ok g) fun h => (firstO_or h).elim (mT_ok ok g) (xT_ok ok g)
  I := fun g h => (firstO_or h).elim (mIt_ok ok g) (xI_ok ok g)
  G := fun g h T hT => mTg_ok ok g h T hT
  S := fun g h => (firstO_or h).elim (oS_ok ok g) fun h => (firstO_or h).elim (rS_ok ok g) fun h => (firstO_or h).elim (wS_ok ok g) fun h => (firstO_or h).elim (zS_ok ok g) fun h => (firstO_or h).elim (xS_ok ok g) (mSt_ok ok g)
  L := fun g h => mSts_ok ok g h
def cp : Nat → Cp
  | 0 => cp0
  | n + 1 => step2 (cp n)
theorem cp_ok : ∀ n, CpOk (cp n)
  | 0 => cp0_ok
  | n + 1 => step2_ok (cp_ok n)
end MP

namespace MP
open PySem PySem.Spec PyProof.Rows L2

/-! ### from the compiler to the defs' promises -/
def ceOf (N : List Str) (st : Stmt) (gm : List (Str × FnI)) (cs : List (Str × D)) (bl : List Str) (sc : Option Str) (an : List (Nat × List (Nat × Bool))) (lam : Bool) (xc : List (Str × Nat)) (al : List (Str × Str)) (er : List Str) (ak : List (Str × List (Str × Str))) : CE := ⟨N, (defScope st).names, none, gm, cs, bl, sc, an, lam, xc, ak, al, er⟩
/-- what is known of the errors and of the asking defs -/
structure XOk (P : Program) (w : World) (K : PySem.W.Frag) (mg : Str → Option Value) (base : Heap) (k : Nat) (er : List Str) (ak : List (Str × List (Str × Str))) : Prop where
  err : ∀ c ∈ er, ∃ j C, ErrK P w K mg base j c C ∧ j + 1 ≤ k
  ask : ∀ x hs, ak.lookup x = some hs → AskK P w K mg base er x hs
theorem XOk.mono {P : Program} {w : World} {K : PySem.W.Frag} {mg : Str → Option Value} {base : Heap} {j k : Nat} {er : List Str} {ak : List (Str × List (Str × Str))} (X : XOk P w K mg base j er ak) (h : j ≤ k) : XOk P w K mg base k er ak :=
  ⟨fun c hc => by obtain ⟨i, C, e, l⟩ := X.err c hc; exact ⟨i, C, e, Nat.le_trans l h⟩, X.ask⟩
theorem xok_nil {P : Program} {w : World} {K : PySem.W.Frag} {mg : Str → Option Value} {base : Heap} {k : Nat} : XOk P w K mg base k [] [] := ⟨fun c hc => absurd hc List.not_mem_nil, fun x hs z => by cases z⟩
def AlOk (K : PySem.W.Frag) (mg : Str → Option Value) (al : List (Str × Str)) : Prop := ∀ x y, al.lookup x = some y → ∃ f, PySem.W.nsIn K mainGlobals y = some (some (.ref f)) ∧ mg y = some (.ref f)
theorem al_nil {K : PySem.W.Frag} {mg : Str → Option Value} : AlOk K mg [] := fun x y z => by cases z
structure ModOk (K : PySem.W.Frag) (mg : Str → Option Value) (cs : List (Str × D)) (bl : List Str) : Prop where
  bl : ∀ x ∈ bl, mg x = none
  cs : ∀ x d, cs.lookup x = some d → ∃ v u, mg x = some u ∧ RelV v u ∧ ∀ H M, Rep K H M v d
def GmOk (τ : LTab) (P : Program) (w : World) (K : PySem.W.Frag) (mg : Str → Option Value) (base : Heap) (k : Nat) (gm : List (Str × FnI)) : Prop :=
  ∀ x fi, gm.lookup x = some fi → ∃ f fd ps, FnOk P w K mg base (L2.CX P w) k f fd ps (spF mg K τ fi.n fi.io fi.Fn) ∧ mg x = some (.ref f) ∧ PySem.W.keepIn K (.ref f) = true ∧ Binds K fd ps [] ∧ ∀ ds, fi.Fn ds ≠ .bad → ds.length = fi.n
/-- the table of a def's lambdas -/
def LamT (τ : LTab) (base : Heap) (mg : Str → Option Value) (qual : Str) (scope : Scope) (cdv : Value) : Prop := ∀ (L f : Addr), ∃ c P, LamX.TabB base mg c P ∧ cdv = .ref c ∧ (P, (envOfC qual scope L f cdv).qual ++ "<lambda>") ∈ τ ∧ ∀ p ∈ τ, p.1 = P → p.2 = (envOfC qual scope L f cdv).qual ++ "<lambda>"
section
variable {τ : LTab} {P : Program} {w : World} {K : PySem.W.Frag} {mg : Str → Option Value} {base : Heap} {k : Nat} {gm : List (Str × FnI)} {cs : List (Str × D)} {bl : List Str} {sc : Option Str} {N ps : List Str} {st : Stmt} {x qual : Str} {f : Addr} {fd : FuncData} {B : Es} {io : Option Nat}
  {an : List (Nat × List (Nat × Bool))} {lam : Bool} {xc : List (Str × Nat)} {al : List (Str × Str)} {er : List Str} {ak : List (Str × List (Str × Str))} {oc dV kV doc pm cdv ct : Value} {od ad : Option Addr} {osl : Array (Option Value)}
theorem gm_nil : GmOk τ P w K mg base k [] := fun x fi h => by cases h
theorem GmOk.mono {j : Nat} (G : GmOk τ P w K mg base k gm) (h : k ≤ j) : GmOk τ P w K mg base j gm := fun x fi e => by
  obtain ⟨f, fd, ps, F, h1, h2, h3, h4⟩ := G x fi e
  exact ⟨f, fd, ps, F.mono h, h1, h2, h3, h4⟩
theorem good_cx (MO : ModOk K mg cs bl) (AL : AlOk K mg al) (XO : XOk P w K mg base k er ak) (G : GmOk τ P w K mg base k gm) (S : FnScope N ps (defScope st)) {cdv : Value} {A : Around} {outer : List Env} {s : Shared} {H : Hp} {E : XK} (hr : Room k (A.deeper (envOfC qual (defScope st) s.heap.objs.size f cdv)))
    (hl : lam = true → Room (k + 3) (A.deeper (envOfC qual (defScope st) s.heap.objs.size f cdv)) ∧ LamT τ base mg qual (defScope st) cdv) :
    Good τ (ceOf N st gm cs bl sc an lam xc al er ak) (cxOf (L2.CX P w) P w K mg base N qual (defScope st) f cdv A outer s H E) (fun cls d _ H => E cls d H) := by
  refine ⟨rfl, S.nd, rfl, S.kind, rfl, fun _ _ => rfl, ?_, MO.bl, MO.cs, fun x fi e => ?_, takes_of rfl rfl rfl rfl, passes_of rfl, fun z => ?_, AL, fun c hc => ?_, XO.ask⟩
  · have := hr.un
    show (A.deeper _).units + 150 < cLine
    omega
  · obtain ⟨f', fd, ps, F, h1, h2, h3, h4⟩ := G x fi e
    exact ⟨k, f', fd, ps, F, hr, h1, h2, h3, h4⟩
  · obtain ⟨r3, T⟩ := hl z
    exact ⟨⟨k, r3, G⟩, T s.heap.objs.size f⟩
  · obtain ⟨j, C, e, l⟩ := XO.err c hc
    exact ⟨j, C, e, hr.mono l⟩
theorem def_ok (n : Nat) (MO : ModOk K mg cs bl) (AL : AlOk K mg al) (XO : XOk P w K mg base k er ak) (G : GmOk τ P w K mg base k gm) (FF : Fun K x qual st f fd) (S : FnScope N ps (defScope st)) (hB : (cp n).L (ceOf N st gm cs bl none an false xc al er ak) (defBody st) = some B) :
    FnOk P w K mg base (L2.CX P w) (k + 1) f fd ps (spF mg K τ ps.length io (defSem B N.length ps.length io)) :=
  fn_ok FF S fun cdv A outer s H E hr => (cp_ok n).L (good_cx MO AL XO G S hr fun z => by cases z) hB
theorem def_okL (n : Nat) (MO : ModOk K mg cs bl) (AL : AlOk K mg al) (XO : XOk P w K mg base k er ak) (G : GmOk τ P w K mg base k gm) (lk : K.lookup f = some ⟨oc, od, .func (PySem.W.fnOf x qual (defArgs st) (defBody st) (defScope st) dV kV doc pm ad cdv ct), osl⟩) (hcd : PySem.W.codeIn K cdv qual = true) (S : FnScope N ps (defScope st))
    (T : LamT τ base mg qual (defScope st) cdv) (hB : (cp n).L (ceOf N st gm cs bl none an true xc al er ak) (defBody st) = some B) :
    FnOk P w K mg base (L2.CX P w) (k + 4) f (PySem.W.fnOf x qual (defArgs st) (defBody st) (defScope st) dV kV doc pm ad cdv ct) ps (spF mg K τ ps.length io (defSem B N.length ps.length io)) :=
  fn_okL lk hcd S fun A outer s H E hr => (cp_ok n).L (good_cx MO AL XO G S (hr.mono (by omega)) fun _ => ⟨hr, T⟩) hB
theorem gm_cons {fi : FnI} (G : GmOk τ P w K mg base k gm) (F : FnOk P w K mg base (L2.CX P w) k f fd ps (spF mg K τ fi.n fi.io fi.Fn)) (hm : mg x = some (.ref f)) (hk : PySem.W.keepIn K (.ref f) = true) (hb : Binds K fd ps []) (hn : ∀ ds, fi.Fn ds ≠ .bad → ds.length = fi.n) :
    GmOk τ P w K mg base k ((x, fi) :: gm) := fun y gi e => by
  rw [List.lookup_cons] at e
  by_cases h : (y == x) = true
  · rw [h] at e
    cases e
    have : y = x := by simpa using h
    subst this
    exact ⟨f, fd, ps, F, hm, hk, hb, hn⟩
  · rw [show (y == x) = false by simpa using h] at e
    exact G y gi e
/-- one more def -/
theorem gm_def (n : Nat) (MO : ModOk K mg cs bl) (AL : AlOk K mg al) (XO : XOk P w K mg base k er ak) (G : GmOk τ P w K mg base k gm) (FF : Fun K x qual st f fd) (S : FnScope N ps (defScope st)) (hB : (cp n).L (ceOf N st gm cs bl none an false xc al er ak) (defBody st) = some B) (hm : mg x = some (.ref f)) (hb : Binds K fd ps []) :
    GmOk τ P w K mg base (k + 1) ((x, ⟨ps.length, io, defSem B N.length ps.length io⟩) :: gm) :=
  gm_cons (G.mono (Nat.le_succ k)) (def_ok n MO AL XO G FF S hB) hm FF.kp hb fun ds => defSem_len
/-- .. with lambdas -/
theorem gm_defL (n : Nat) (MO : ModOk K mg cs bl) (AL : AlOk K mg al) (XO : XOk P w K mg base k er ak) (G : GmOk τ P w K mg base k gm) (lk : K.lookup f = some ⟨oc, od, .func (PySem.W.fnOf x qual (defArgs st) (defBody st) (defScope st) dV kV doc pm ad cdv ct), osl⟩) (hcd : PySem.W.codeIn K cdv qual = true) (hkp : PySem.W.keepIn K (.ref f) = true) (S : FnScope N ps (defScope st))
    (T : LamT τ base mg qual (defScope st) cdv) (hB : (cp n).L (ceOf N st gm cs bl none an true xc al er ak) (defBody st) = some B) (hm : mg x = some (.ref f)) (hb : Binds K (PySem.W.fnOf x qual (defArgs st) (defBody st) (defScope st) dV kV doc pm ad cdv ct) ps []) :
    GmOk τ P w K mg base (k + 4) ((x, ⟨ps.length, io, defSem B N.length ps.length io⟩) :: gm) :=
  gm_cons (G.mono (by omega)) (def_okL n MO AL XO G lk hcd S T hB) hm hkp hb fun ds => defSem_len
/-- a def that calls itself: nothing known, then step by step -/
theorem gm_rec0 (n : Nat) (G : GmOk τ P w K mg base k gm) (FF : Fun K x qual st f fd) (hl : ps.length = n) (hm : mg x = some (.ref f)) (hb : Binds K fd ps []) : GmOk τ P w K mg base k ((x, ⟨n, io, fun _ => .bad⟩) :: gm) := by
  refine gm_cons G ⟨fun vs H Q E h => h.1.trans hl.symm, fun A outer s H args us vs Q E _ _ _ _ h => ?_⟩ hm FF.kp hb fun ds h => absurd rfl h
  obtain ⟨_, M, ds, _, _, _, h⟩ := h
  exact h.elim
theorem gm_recS {fi : FnI} (n : Nat) (MO : ModOk K mg cs bl) (AL : AlOk K mg al) (XO : XOk P w K mg base k er ak) (G : GmOk τ P w K mg base k ((x, fi) :: gm)) (FF : Fun K x qual st f fd) (S : FnScope N ps (defScope st)) (hB : (cp n).L (ceOf N st ((x, fi) :: gm) cs bl none an false xc al er ak) (defBody st) = some B) (hm : mg x = some (.ref f)) (hb : Binds K fd ps [])
    (hx : gm.lookup x = none) : GmOk τ P w K mg base (k + 1) ((x, ⟨ps.length, io, defSem B N.length ps.length io⟩) :: gm) := by
  refine gm_cons (fun y gi e => ?_) (def_ok n MO AL XO G FF S hB) hm FF.kp hb fun ds => defSem_len
  have hy : (y == x) = false := by
    cases h : y == x with
    | false => rfl
    | true =>
      have : y = x := by simpa using h
      rw [this, hx] at e
      cases e
  obtain ⟨f, fd, ps, F, h1, h2, h3, h4⟩ := G y gi (by rw [List.lookup_cons, hy]; exact e)
  exact ⟨f, fd, ps, F.mono (Nat.le_succ k), h1, h2, h3, h4⟩
/-! the law -/
def spLaw (τ : LTab) (K : PySem.W.Frag) : Sp := fun vs H Q _ => ∃ (a : Addr) (ns : List Int), vs = [.ref a] ∧ SqL K H a (ns.map V.int) ∧ ns.length ≤ 63 ∧ Tabs τ H ∧ ∀ H', Q (.bl true) H'
def LawTrue (B : Es) (n : Nat) : Prop := ∀ ns : List Int, ns.length ≤ 63 → ∃ ρ, B (.sc ns :: List.replicate (n - 1) .no) = .ret (.bl true) ρ
theorem law_rest {vs : List V} {H : Hp} {Q : VK} {E : XK} {W : WiT} (S : FnScope N ["script"] (defScope st)) (hT : LawTrue B N.length) (h : spLaw τ K vs H Q E) : tOfS K τ W B { nx := fun _ H' => Q .non H', rt := Q } (L2.start N vs) H := by
  obtain ⟨a, ns, rfl, hS, hlen, hO, q⟩ := h
  refine ⟨⟨fun _ => False, fun _ => False, H, fun _ => False⟩, fun _ => False, .sc ns :: List.replicate (N.length - 1) .no, ?_, ?_⟩
  · have hN : 1 ≤ N.length := by have := congrArg List.length S.pre; rw [List.length_take] at this; simp at this; omega
    have hsc : ScR K H (fun _ => False) a ns := by
      rcases hS with hS | hS
      · rcases hS with hS | ⟨o, hS⟩
        · exact .inr (.inl ⟨hS, id, fun _ z => z.elim⟩)
        · exact .inl ⟨o, hS, id, fun z => z.elim⟩
      · exact .inr (.inr hS)
    have g : ∀ i : Nat, L2.start N [V.ref a] = some (.ref a) :: List.replicate (N.length - 1) none := fun _ => rfl
    refine ⟨fun _ z => z.elim, fun _ z => z.elim, fun _ z => z.elim, Step.refl, fun _ z => z.elim, ?_, fun i => ?_, fun i j b hi => ?_, hO, fun _ z => z.elim⟩
    · rw [g 0]; simp
    · rw [g 0]
      cases i with
      | zero => exact .sc hsc
      | succ i =>
        rw [List.getElem?_cons_succ, List.getElem?_cons_succ, List.getElem?_replicate, List.getElem?_replicate]
        by_cases hi : i < N.length - 1
        · rw [if_pos hi, if_pos hi]; exact .no
        · rw [if_neg hi, if_neg hi]; exact .nil
    · obtain ⟨_, y, _, h2, h3⟩ := hi
      cases i with
      | zero => cases h2; exact h3.elim
      | succ i =>
        rw [List.getElem?_cons_succ, List.getElem?_replicate] at h2
        split at h2
        · cases h2; exact h3.elim
        · cases h2
  · obtain ⟨ρ, e⟩ := hT ns hlen
    rw [e]
    intro v σ' H' M' r _ _
    cases r
    exact q H'
theorem law_len {vs : List V} {H : Hp} {Q : VK} {E : XK} (h : spLaw τ K vs H Q E) : vs.length = ["script"].length := by
  obtain ⟨a, ns, rfl, _⟩ := h
  rfl
theorem law_ok (n : Nat) (MO : ModOk K mg cs bl) (AL : AlOk K mg al) (XO : XOk P w K mg base k er ak) (G : GmOk τ P w K mg base k gm) (FF : Fun K x qual st f fd) (S : FnScope N ["script"] (defScope st)) (hB : (cp n).L (ceOf N st gm cs bl sc an false xc al er ak) (defBody st) = some B) (hT : LawTrue B N.length) :
    FnOk P w K mg base (L2.CX P w) (k + 1) f fd ["script"] (spLaw τ K) :=
  FF.okX S (fun vs H Q E h => law_len h) fun cdv A outer s H vs Q E hr h => ⟨_, (cp_ok n).L (good_cx MO AL XO G S hr fun z => by cases z) hB, law_rest S hT h⟩
theorem law_okL (n : Nat) (MO : ModOk K mg cs bl) (AL : AlOk K mg al) (XO : XOk P w K mg base k er ak) (G : GmOk τ P w K mg base k gm) (lk : K.lookup f = some ⟨oc, od, .func (PySem.W.fnOf x qual (defArgs st) (defBody st) (defScope st) dV kV doc pm ad cdv ct), osl⟩) (hcd : PySem.W.codeIn K cdv qual = true) (S : FnScope N ["script"] (defScope st))
    (T : LamT τ base mg qual (defScope st) cdv) (hB : (cp n).L (ceOf N st gm cs bl sc an true xc al er ak) (defBody st) = some B) (hT : LawTrue B N.length) :
    FnOk P w K mg base (L2.CX P w) (k + 4) f (PySem.W.fnOf x qual (defArgs st) (defBody st) (defScope st) dV kV doc pm ad cdv ct) ["script"] (spLaw τ K) :=
  fn_of lk hcd S (fun vs H Q E h => law_len h) fun A outer s H vs Q E hr h => ⟨_, (cp_ok n).L (good_cx MO AL XO G S (hr.mono (by omega)) fun _ => ⟨hr, T⟩) hB, law_rest S hT h⟩
end
end MP
namespace MP
open PySem PySem.Spec PyProof.Rows L2
/-! ### constants of the module -/
mutual
def repK : Nat → PySem.W.Frag → Value → D → Bool
  | _, _, .none, .non => true
  | _, _, .bool a, .bl b => a == b
  | _, _, .int a _, .int b => a == b
  | n + 1, K, .ref a, .tup ds => match K.lookup a with
    | some ⟨c, _, .seq its _, _⟩ => KTok && (match c with
        | .type t => t == "tuple"
        | _ => false) && decide (its.size ≤ 1000) && repKL n K its.toList ds
    | _ => false
  | _, _, _, _ => false
def repKL : Nat → PySem.W.Frag → List Value → List D → Bool
  | _, _, [], [] => true
  | n + 1, K, v :: vs, d :: ds => repK n K v d && repKL n K vs ds
  | _, _, _, _ => false
end
mutual
theorem repK_ok {K : PySem.W.Frag} : ∀ (n : Nat) (u : Value) (d : D), repK n K u d = true → ∃ v, RelV v u ∧ ∀ H M, Rep K H M v d
  | n, u, d, h => by
    unfold repK at h
    split at h
    · exact ⟨.non, rfl, fun _ _ => .non⟩
    · rename_i a b
      have e : a = b := by simpa using h
      subst e
      exact ⟨.bl a, rfl, fun _ _ => .bl a⟩
    · rename_i a t b
      have e : a = b := by simpa using h
      subst e
      exact ⟨.int a, ⟨t, rfl⟩, fun _ _ => .int a⟩
    · rename_i n a ds
      split at h
      · rename_i c dd its ln sl e
        simp only [Bool.and_eq_true, decide_eq_true_eq] at h
        obtain ⟨⟨⟨h0, h1⟩, h2⟩, h3⟩ := h
        obtain ⟨vs, r, hr⟩ := repKL_ok n its.toList ds h3
        have hc : c = .type "tuple" := by
          split at h1
          · rename_i t
            have : t = "tuple" := by simpa using h1
            rw [this]
          · cases h1
        exact ⟨.ref a, rfl, fun H M => .tup (.inr ⟨h0, _, its, ln, e, hc, rfl, by rw [sizeLine_eq]; omega, r⟩) (hr H M)⟩
      · cases h
    · cases h
theorem repKL_ok {K : PySem.W.Frag} : ∀ (n : Nat) (us : List Value) (ds : List D), repKL n K us ds = true → ∃ vs, Vals vs us ∧ ∀ H M, RepL K H M vs ds
  | n, us, ds, h => by
    unfold repKL at h
    split at h
    · exact ⟨[], .nil, fun _ _ => .nil⟩
    · rename_i n v vs d ds
      rw [Bool.and_eq_true] at h
      obtain ⟨x, r1, h1⟩ := repK_ok n v d h.1
      obtain ⟨xs, r2, h2⟩ := repKL_ok n vs ds h.2
      exact ⟨x :: xs, .cons r1 r2, fun H M => .cons (h1 H M) (h2 H M)⟩
    · cases h
end
end MP
namespace MP
open PySem PySem.Spec PyProof.Rows L2
theorem hcx {P : Program} {w : World} {outer : List Env} {H : Hp} {s : Shared} {e : Value} {s' : Shared} (h : L2.CX P w outer H s (fun _ _ _ => False) e s') : False := by
  obtain ⟨_, _, _, _, _, _, _, _, _, _, _, _, z⟩ := h
  exact z
/-- the table of the code object at c -/
def tabOf (K : PySem.W.Frag) (c : Addr) : Addr := match K.lookup c with
  | some ⟨_, _, .fields vs, _⟩ => (match (vs[11]? : Option Value) with
    | some (.ref P) => P
    | _ => 0)
  | _ => 0
def huB (τ : LTab) (P : Addr) (q : Str) : Bool := τ.all fun p => !decide (p.1 = P) || decide (p.2 = q)
theorem hu_of {τ : LTab} {P : Addr} {q : Str} (h : huB τ P q = true) : ∀ p ∈ τ, p.1 = P → p.2 = q := fun p hp e => by
  have := List.all_eq_true.mp h p hp
  rw [Bool.or_eq_true, Bool.not_eq_true', decide_eq_false_iff_not, decide_eq_true_eq] at this
  exact this.resolve_left fun z => z e
end MP

namespace MP
open PySem PySem.Spec PyProof.Rows L2
open PySem.W (Datum DatumOrd)

/-! ### typed data -/
class Cd (α : Type) [DecidableEq α] [DatumOrd α] where
  en : α → D
  py : ∀ a, toPy (en a) = Datum.toD a
open Cd (en)
instance : Cd Int where
  en := .int
  py a := by rw [toPy]; rfl
instance : Cd Bool where
  en := .bl
  py a := by rw [toPy]; rfl
section
variable {α β : Type} [DecidableEq α] [DatumOrd α] [Cd α] [DecidableEq β] [DatumOrd β] [Cd β]
theorem py_map : ∀ xs : List α, toPyL (xs.map en) = xs.map Datum.toD
  | [] => by rw [List.map_nil, toPyL]; rfl
  | x :: xs => by rw [List.map_cons, toPyL, Cd.py, py_map xs]; rfl
instance : Cd (List α) where
  en xs := .lst (xs.map en)
  py xs := by rw [toPy, py_map]; rfl
instance : Cd (PySem.W.Tup α) where
  en xs := .tup (xs.items.map en)
  py xs := by rw [toPy, py_map]; rfl
instance : Cd (α × β) where
  en p := .tup [en p.1, en p.2]
  py p := by rw [toPy, toPyL, toPyL, toPyL, Cd.py, Cd.py]; rfl
theorem shp_en (h : Datum.depth α ≤ 50) (a : α) : shp (en a) = true := by
  unfold shp
  rw [decide_eq_true_eq, ← dep_py, Cd.py]
  exact Nat.le_trans (Datum.depth_le a) h
theorem alk_en (a b : α) : alk (en a) (en b) = true := by
  unfold alk
  rw [Cd.py, Cd.py]
  exact DatumOrd.alike a b
theorem eqv_en (a b : α) : eqv (en a) (en b) = decide (a = b) := by
  unfold eqv
  rw [Cd.py, Cd.py]
  exact Datum.eqv a b
theorem ltb_en (a b : α) : ltb (en a) (en b) = DatumOrd.lt a b := by
  unfold ltb
  rw [Cd.py, Cd.py]
  exact DatumOrd.lt_eq a b
theorem non_en (a : α) : isNon (en a) = false := by
  cases h : isNon (en a) with
  | false => rfl
  | true =>
    have e : en a = D.non := by
      generalize en a = d at h
      cases d <;> first | rfl | (exact absurd (show false = true from h) Bool.false_ne_true)
    have := Cd.py a
    rw [e, toPy] at this
    exact absurd this.symm (DatumOrd.notNone a)
theorem eqG_en (h : Datum.depth α ≤ 50) (a b : α) : eqG (en a) (en b) = some (decide (a = b)) := by
  unfold eqG
  rw [if_pos (.inl (shp_en h a)), eqv_en]
theorem neG_en (h : Datum.depth α ≤ 50) (a b : α) : neG (en a) (en b) = some (decide (a ≠ b)) := by
  unfold neG
  rw [eqG_en h]
  simp
theorem any_en (x : α) : ∀ xs : List α, ((xs.map en).any fun y => eqv y (en x)) = decide (x ∈ xs)
  | [] => by simp
  | y :: ys => by
    rw [List.map_cons, List.any_cons, any_en x ys, eqv_en, ← Bool.decide_or]
    exact decide_eq_decide.mpr (by rw [List.mem_cons, eq_comm])
theorem inG_en (h : Datum.depth α ≤ 50) (x : α) (xs : List α) : inG (en x) (.lst (xs.map en)) = some (decide (x ∈ xs)) := by
  unfold inG
  rw [show lsOf (.lst (xs.map en)) = some (xs.map en) from rfl, Option.bind_some, if_pos (shp_en h x), any_en]
theorem inG_en' (h : Datum.depth α ≤ 50) (x : α) (xs : List α) : inG (en x) (.tup (xs.map en)) = some (decide (x ∈ xs)) := by
  unfold inG
  rw [show lsOf (.tup (xs.map en)) = some (xs.map en) from rfl, Option.bind_some, if_pos (shp_en h x), any_en]
theorem ninG_en (h : Datum.depth α ≤ 50) (x : α) (xs : List α) : ninG (en x) (.lst (xs.map en)) = some (decide (x ∉ xs)) := by
  unfold ninG
  rw [inG_en h]
  simp
theorem ord_en (h : Datum.depth α ≤ 50) (g : D → D → Bool) (a b : α) : ordG g (en a) (en b) = some (g (en a) (en b)) := by
  unfold ordG
  rw [if_pos ⟨alk_en a b, non_en a, .inl (shp_en h a)⟩]
theorem ltG_tup (xs ys : List D) : ltG (.tup xs) (.tup ys) = ordG ltb (.tup xs) (.tup ys) := rfl
/-! the order -/
theorem lt_irr (a : α) : DatumOrd.lt a a = false := by rw [← DatumOrd.lt_eq]; exact PySem.W.dataLt_self _
theorem lt_tr {a b c : α} (h1 : DatumOrd.lt a b = true) (h2 : DatumOrd.lt b c = true) : DatumOrd.lt a c = true := by
  rw [← DatumOrd.lt_eq] at h1 h2 ⊢
  exact lex_trans _ _ _ h1 h2
theorem lt_asy {a b : α} (h1 : DatumOrd.lt a b = true) : DatumOrd.lt b a = false := by
  cases h : DatumOrd.lt b a with
  | false => rfl
  | true => have := lt_tr h1 h; rw [lt_irr] at this; cases this
theorem lt_neg {a b c : α} (h1 : DatumOrd.lt a c = true) : DatumOrd.lt a b = true ∨ DatumOrd.lt b c = true := by
  rw [← DatumOrd.lt_eq] at h1 ⊢
  rw [← DatumOrd.lt_eq]
  exact lex_negTrans _ _ _ h1
theorem lt_tot {a b : α} (h1 : DatumOrd.lt a b = false) (h2 : DatumOrd.lt b a = false) : a = b := by
  rw [← DatumOrd.lt_eq] at h1 h2
  have e := lex_total _ _ h1 h2
  obtain ⟨_, t2⟩ := PySem.W.toks_eqv (Datum.toD a) (Datum.toD b) (DatumOrd.alike a b)
  cases h : PyData.eqv (Datum.toD a) (Datum.toD b) with
  | true => rw [Datum.eqv] at h; exact of_decide_eq_true h
  | false =>
    have q := t2 h [] [Sum.inl 0]
    rw [e, PySem.W.lex_pre, lex_irrefl] at q
    cases q
/-! sorted -/
def sortO (xs : List α) : List α := xs.mergeSort fun a b => !DatumOrd.lt b a
theorem leO_tr : ∀ a b c : α, (!DatumOrd.lt b a) = true → (!DatumOrd.lt c b) = true → (!DatumOrd.lt c a) = true := fun a b c h1 h2 => by
  simp only [Bool.not_eq_true'] at h1 h2 ⊢
  cases h : DatumOrd.lt c a with
  | false => rfl
  | true => rcases lt_neg (b := b) h with q | q <;> simp_all
theorem leO_tot : ∀ a b : α, ((!DatumOrd.lt b a) || (!DatumOrd.lt a b)) = true := fun a b => by
  cases h : DatumOrd.lt b a with
  | false => rfl
  | true => rw [lt_asy h]; rfl
theorem sortO_perm (xs : List α) : (sortO xs).Perm xs := List.mergeSort_perm xs _
theorem sortO_srt (xs : List α) : (sortO xs).Pairwise fun a b => (!DatumOrd.lt b a) = true := List.pairwise_mergeSort (fun a b c => leO_tr a b c) (fun a b => leO_tot a b) xs
theorem sortO_eq {xs ys : List α} (h : xs.Perm ys) : sortO xs = sortO ys := by
  refine List.Perm.eq_of_pairwise (le := fun a b => (!DatumOrd.lt b a) = true) (fun a b _ _ h1 h2 => ?_) (sortO_srt xs) (sortO_srt ys) ((sortO_perm xs).trans (h.trans (sortO_perm ys).symm))
  simp only [Bool.not_eq_true'] at h1 h2
  exact lt_tot h2 h1
theorem sortO_iff {xs ys : List α} : sortO xs = sortO ys ↔ xs.Perm ys := ⟨fun h => (sortO_perm xs).symm.trans (h ▸ sortO_perm ys), sortO_eq⟩
theorem leS_en (a b : α) : leS (en a) (en b) = !DatumOrd.lt b a := by unfold leS; rw [ltb_en]
theorem sort_en (xs : List α) : (xs.map en).mergeSort leS = (sortO xs).map en := by
  unfold sortO
  rw [List.map_mergeSort]
  intro a _ b _
  rw [leS_en]
theorem alkL_en (xs : List α) : alkL (xs.map en) = true := by
  unfold alkL
  simp only [List.all_eq_true, List.mem_map]
  rintro _ ⟨a, _, rfl⟩ _ ⟨b, _, rfl⟩
  exact alk_en a b
theorem shpL_en (h : Datum.depth α ≤ 50) (xs : List α) : shpL (xs.map en) = true := by
  unfold shpL
  simp only [List.all_eq_true, List.mem_map]
  rintro _ ⟨a, _, rfl⟩
  exact shp_en h a
theorem sortG_en (h : Datum.depth α ≤ 50) (xs : List α) (hs : srtb (xs.map en) = true) : sortG [.lst (xs.map en)] = some (.inr ((sortO xs).map en)) := by
  show (if alkL (xs.map en) = true ∧ srtb (xs.map en) = true ∧ shpL (xs.map en) = true then some (Sum.inr ((xs.map en).mergeSort leS)) else none) = _
  rw [if_pos ⟨alkL_en xs, hs, shpL_en h xs⟩, sort_en]
theorem srtb_pair (xs : List (α × β)) : srtb (xs.map en) = true := by
  unfold srtb
  rw [Bool.or_eq_true]
  left
  simp only [List.all_eq_true, List.mem_map]
  rintro _ ⟨a, _, rfl⟩
  rfl
theorem sortG_pair (h : Datum.depth (α × β) ≤ 50) (xs : List (α × β)) : sortG [.lst (xs.map en)] = some (.inr ((sortO xs).map en)) := sortG_en h xs (srtb_pair xs)
/-! least -/
def minO (x : α) (xs : List α) : α := xs.foldl (fun a y => if DatumOrd.lt y a = true then y else a) x
theorem minL_en : ∀ (xs : List α) (x : α), minL (en x) (xs.map en) = en (minO x xs)
  | [], x => rfl
  | y :: ys, x => by
    show minL (if ltb (en y) (en x) = true then en y else en x) (ys.map en) = en (minO (if DatumOrd.lt y x = true then y else x) ys)
    rw [ltb_en, ← minL_en ys]
    split <;> rfl
theorem minG_en (h : Datum.depth α ≤ 50) (x : α) (xs : List α) : minG [.lst (en x :: xs.map en)] = some (.inl (en (minO x xs))) := by
  show (if alkL (en x :: xs.map en) = true ∧ (en x :: xs.map en).all (fun d => !isNon d) = true ∧ shpL (en x :: xs.map en) = true then some (Sum.inl (minL (en x) (xs.map en))) else none) = _
  have e : en x :: xs.map en = (x :: xs).map en := rfl
  have h2 : (en x :: xs.map en).all (fun d => !isNon d) = true := by
    rw [e]
    simp only [List.all_eq_true, List.mem_map]
    rintro _ ⟨a, _, rfl⟩
    rw [non_en]; rfl
  have h1 : alkL (en x :: xs.map en) = true := by rw [e]; exact alkL_en _
  have h3 : shpL (en x :: xs.map en) = true := by rw [e]; exact shpL_en h _
  rw [if_pos ⟨h1, h2, h3⟩, minL_en]
theorem minO_mem : ∀ (xs : List α) (x : α), minO x xs ∈ x :: xs
  | [], x => List.mem_cons_self
  | y :: ys, x => by
    show minO (if DatumOrd.lt y x = true then y else x) ys ∈ _
    rcases List.mem_cons.mp (minO_mem ys (if DatumOrd.lt y x = true then y else x)) with e | e
    · rw [e]; split
      · exact List.mem_cons_of_mem _ List.mem_cons_self
      · exact List.mem_cons_self
    · exact List.mem_cons_of_mem _ (List.mem_cons_of_mem _ e)
theorem minO_le : ∀ (xs : List α) (x : α), ∀ z ∈ x :: xs, DatumOrd.lt z (minO x xs) = false
  | [], x, z, h => by
    rcases List.mem_cons.mp h with e | e
    · rw [e]; exact lt_irr x
    · cases e
  | y :: ys, x, z, h => by
    show DatumOrd.lt z (minO (if DatumOrd.lt y x = true then y else x) ys) = false
    have ih := minO_le ys (if DatumOrd.lt y x = true then y else x)
    have h0 := ih _ List.mem_cons_self
    have le : ∀ w : α, DatumOrd.lt w (if DatumOrd.lt y x = true then y else x) = false → DatumOrd.lt w (minO (if DatumOrd.lt y x = true then y else x) ys) = false := fun w hw => by
      cases q : DatumOrd.lt w (minO (if DatumOrd.lt y x = true then y else x) ys) with
      | false => rfl
      | true => rcases lt_neg (b := (if DatumOrd.lt y x = true then y else x)) q with r | r <;> simp_all
    rcases List.mem_cons.mp h with e | h
    · subst e
      by_cases c : DatumOrd.lt y z = true
      · rw [if_pos c] at le ih h0 ⊢
        have lz : DatumOrd.lt z y = false := lt_asy c
        exact le z lz
      · rw [if_neg c] at le ih h0 ⊢
        exact le z (lt_irr z)
    · rcases List.mem_cons.mp h with e | h
      · subst e
        by_cases c : DatumOrd.lt z x = true
        · rw [if_pos c] at le ih h0 ⊢
          exact le z (lt_irr z)
        · rw [if_neg c] at le ih h0 ⊢
          exact le z (by simpa using c)
      · exact ih z (List.mem_cons_of_mem _ h)
theorem minO_uniq {x : α} {xs : List α} {m : α} (hm : m ∈ x :: xs) (hl : ∀ z ∈ x :: xs, DatumOrd.lt z m = false) : minO x xs = m :=
  lt_tot (hl _ (minO_mem xs x)) (minO_le xs x m hm)
/-- sorted's first is the least -/
theorem sortO_head {xs : List α} {x : α} {r : List α} (h : sortO xs = x :: r) : x ∈ xs ∧ ∀ z ∈ xs, DatumOrd.lt z x = false := by
  have p := sortO_perm xs
  have s := sortO_srt xs
  rw [h] at p s
  refine ⟨p.mem_iff.mp List.mem_cons_self, fun z hz => ?_⟩
  rcases List.mem_cons.mp (p.mem_iff.mpr hz) with e | e
  · rw [e]; exact lt_irr x
  · simpa using (List.pairwise_cons.mp s).1 z e
end

/-! ### comprehensions and loops -/
theorem back_wipe {ρ : Store} : ∀ {T : List Nat}, back ρ (wipeS ρ T) T = ρ := by
  intro T
  apply List.ext_getElem?
  intro j
  by_cases hb : j < ρ.length
  · by_cases hj : j ∈ T
    · rw [back_in hj (by rw [wipeS_len]; exact hb), List.getD_eq_getElem?_getD, List.getElem?_eq_getElem hb]; rfl
    · rw [back_out hj, wipeS_out hj]
  · rw [List.getElem?_eq_none (by rw [back_len, wipeS_len]; omega), List.getElem?_eq_none (by omega)]
theorem lcL_map {α : Type} {T : List Nat} {g : Tg} {tt : Et} {elt : Ex} {ρ : Store} {c : α → D} {h : α → D} {P : α → Bool} : ∀ (xs : List α),
    (∀ x ∈ xs, ∃ ρ1 ρ2, g (c x) ρ = .ok ρ1 ∧ tt ρ1 = .ok (P x, ρ2) ∧ (P x = true → ∃ ρ3, elt ρ2 = .ok (h x, ρ3) ∧ wipeS ρ3 T = ρ) ∧ (P x = false → wipeS ρ2 T = ρ)) →
    lcL T g tt elt (xs.map c) ρ = .ok ((xs.filter P).map h, ρ)
  | [], _ => rfl
  | x :: xs, hx => by
    obtain ⟨ρ1, ρ2, e1, e2, e3, e4⟩ := hx x List.mem_cons_self
    have ih := lcL_map xs fun y hy => hx y (List.mem_cons_of_mem _ hy)
    rw [List.map_cons, lcL, e1, R.bind_ok, e2, R.bind_ok]
    cases hp : P x with
    | true =>
      obtain ⟨ρ3, e5, e6⟩ := e3 hp
      rw [if_pos rfl, e5, R.bind_ok, e6, ih, List.filter_cons_of_pos hp]; rfl
    | false =>
      rw [if_neg Bool.false_ne_true, e4 hp, ih, List.filter_cons_of_neg (by simp [hp])]
theorem lcE_map {α : Type} {T : List Nat} {it : Ei} {g : Tg} {tt : Et} {elt : Ex} {ρ ρ1 : Store} {c : α → D} {h : α → D} {P : α → Bool} (xs : List α) (hi : it ρ = .ok (xs.map c, ρ1)) (ho : ownOk ρ1 T = true)
    (hx : ∀ x ∈ xs, ∃ ρ2 ρ3, g (c x) (wipeS ρ1 T) = .ok ρ2 ∧ tt ρ2 = .ok (P x, ρ3) ∧ (P x = true → ∃ ρ4, elt ρ3 = .ok (h x, ρ4) ∧ wipeS ρ4 T = wipeS ρ1 T) ∧ (P x = false → wipeS ρ3 T = wipeS ρ1 T)) :
    lcE T it g tt elt ρ = .ok ((xs.filter P).map h, ρ1) := by
  unfold lcE
  rw [hi, R.bind_ok, if_pos ho, lcL_map xs hx]
  show R.ok (_, back ρ1 (wipeS ρ1 T) T) = _
  rw [back_wipe]
/-- without tests -/
theorem lcE_all {α : Type} {T : List Nat} {it : Ei} {g : Tg} {elt : Ex} {ρ ρ1 : Store} {c : α → D} {h : α → D} (xs : List α) (hi : it ρ = .ok (xs.map c, ρ1)) (ho : ownOk ρ1 T = true)
    (hx : ∀ x ∈ xs, ∃ ρ2, g (c x) (wipeS ρ1 T) = .ok ρ2 ∧ ∃ ρ4, elt ρ2 = .ok (h x, ρ4) ∧ wipeS ρ4 T = wipeS ρ1 T) :
    lcE T it g yes elt ρ = .ok (xs.map h, ρ1) := by
  have := lcE_map (tt := yes) (P := fun _ => true) xs hi ho fun x hm => by
    obtain ⟨ρ2, e1, ρ4, e2, e3⟩ := hx x hm
    exact ⟨ρ2, ρ2, e1, rfl, fun _ => ⟨ρ4, e2, e3⟩, fun z => by cases z⟩
  rw [this, List.filter_eq_self.mpr (fun _ _ => rfl)]
theorem forL_fold {α S : Type} {g : Tg} {b : Es} {c : α → D} {f : S → α → S} (I : S → Store → Prop) : ∀ (xs : List α) (s : S) (ρ : Store), I s ρ →
    (∀ x ∈ xs, ∀ s ρ, I s ρ → ∃ ρ1 ρ2, g (c x) ρ = .ok ρ1 ∧ (b ρ1 = .next ρ2 ∨ b ρ1 = .cnt ρ2) ∧ I (f s x) ρ2) → ∃ ρ', forL g b (xs.map c) ρ = .next ρ' ∧ I (xs.foldl f s) ρ'
  | [], s, ρ, h, _ => ⟨ρ, rfl, h⟩
  | x :: xs, s, ρ, h, hx => by
    obtain ⟨ρ1, ρ2, e1, e2, h2⟩ := hx x List.mem_cons_self s ρ h
    obtain ⟨ρ', e3, h3⟩ := forL_fold I xs (f s x) ρ2 h2 fun y hy => hx y (List.mem_cons_of_mem _ hy)
    refine ⟨ρ', ?_, h3⟩
    rw [List.map_cons, forL, e1, R.thenS_ok]
    rcases e2 with e2 | e2 <;> rw [e2]
    · exact e3
    · exact e3
/-- a loop that may return -/
theorem forL_find {α : Type} {g : Tg} {b : Es} {c : α → D} {r : α → Option D} (I : Store → Prop) : ∀ (xs : List α) (ρ : Store), I ρ →
    (∀ x ∈ xs, ∀ ρ, I ρ → ∃ ρ1 ρ2, g (c x) ρ = .ok ρ1 ∧ (match r x with
      | some d => b ρ1 = .ret d ρ2
      | none => (b ρ1 = .next ρ2 ∨ b ρ1 = .cnt ρ2) ∧ I ρ2)) → ∃ ρ', (match xs.findSome? r with
      | some d => forL g b (xs.map c) ρ = .ret d ρ'
      | none => forL g b (xs.map c) ρ = .next ρ' ∧ I ρ')
  | [], ρ, h, _ => ⟨ρ, rfl, h⟩
  | x :: xs, ρ, h, hx => by
    obtain ⟨ρ1, ρ2, e1, e2⟩ := hx x List.mem_cons_self ρ h
    rw [List.findSome?_cons]
    cases q : r x with
    | some d =>
      rw [q] at e2
      exact ⟨ρ2, by show forL g b (c x :: xs.map c) ρ = _; rw [forL, e1, R.thenS_ok, e2]; rfl⟩
    | none =>
      rw [q] at e2
      obtain ⟨e2, h2⟩ := e2
      obtain ⟨ρ', e3⟩ := forL_find I xs ρ2 h2 fun y hy => hx y (List.mem_cons_of_mem _ hy)
      have e4 : forL g b ((x :: xs).map c) ρ = forL g b (xs.map c) ρ2 := by
        rw [List.map_cons, forL, e1, R.thenS_ok]
        rcases e2 with e2 | e2 <;> rw [e2] <;> rfl
      refine ⟨ρ', ?_⟩
      dsimp only
      split
      · rename_i d q2
        rw [q2] at e3
        rw [e4]; exact e3
      · rename_i q2
        rw [q2] at e3
        rw [e4]; exact e3
theorem rng0 (n : Nat) : rng 0 (n : Int) = (List.range n).map fun i => D.int ((i : Nat) : Int) := by
  unfold rng
  rw [show ((n : Int) - 0).toNat = n by omega]
  exact List.map_congr_left fun i _ => by rw [Int.zero_add]
end MP

namespace MP
open PySem PySem.Spec PyProof.Rows L2
open PySem.W (Datum DatumOrd)
open Cd (en)

/-! ### evaluation by simp: one row for each combinator that is applied -/
section
variable {α : Type} (ρ : Store)
@[simp] theorem v_mz (f : Em) : mz f ρ = (f ρ).bind fun x => .ok (Res.d x.1, x.2) := rfl
@[simp] theorem v_pl (f : Ex) : pl f ρ = (f ρ).bind fun x => .ok (.inl x.1, x.2) := rfl
@[simp] theorem v_nw (f : Ef) : nw f ρ = (f ρ).bind fun x => .ok (.inr x.1, x.2) := rfl
@[simp] theorem v_fz (f : Ef) : fz f ρ = (f ρ).bind fun x => .ok (.lst x.1, x.2) := rfl
@[simp] theorem v_vo (f : Ex) : vo f ρ = (f ρ).bind fun x => .ok (.inr x.1, x.2) := rfl
@[simp] theorem v_pk (i : Nat) : pk i ρ = match (ρ[i]?).bind Sl.con with
  | some _ => .ok (.inl i, ρ)
  | none => .bad := rfl
@[simp] theorem v_rd (i : Nat) : rd i ρ = match ρ[i]? with
  | some (.va d) => .ok (d, ρ)
  | some (.ow (.lst ds)) => .ok (.lst ds, ρ.set i (.va (.lst ds)))
  | _ => .bad := rfl
@[simp] theorem v_cst (d : D) : cst d ρ = .ok (d, ρ) := rfl
@[simp] theorem v_aNil : aNil ρ = .ok ([], ρ) := rfl
@[simp] theorem v_xNil : xNil ρ = .ok ([], ρ) := rfl
@[simp] theorem v_aCons (f : Eo) (g : Ea) : aCons f g ρ = (f ρ).bind fun x => (g x.2).bind fun y => .ok (x.1 :: y.1, y.2) := rfl
@[simp] theorem v_xCons (f : Ex) (g : Ea) : xCons f g ρ = (f ρ).bind fun x => (g x.2).bind fun y => .ok (.inr x.1 :: y.1, y.2) := by
  unfold xCons aCons vo
  cases f ρ <;> rfl
@[simp] theorem v_op1M (g : D → Option Res) (f1 : Eo) : op1M g f1 ρ = (f1 ρ).bind fun x => (ofO ((res x.2 x.1).bind g)).bind fun d => .ok (d, x.2) := rfl
@[simp] theorem v_op2M (g : D → D → Option Res) (f1 f2 : Eo) : op2M g f1 f2 ρ = (f1 ρ).bind fun x => (f2 x.2).bind fun y => (ofO ((res y.2 x.1).bind fun a => (res y.2 y.1).bind fun b => g a b)).bind fun d => .ok (d, y.2) := rfl
@[simp] theorem v_opNM (g : List D → Option Res) (fs : Ea) : opNM g fs ρ = (fs ρ).bind fun x => (ofO ((resL x.2 x.1).bind g)).bind fun d => .ok (d, x.2) := rfl
@[simp] theorem v_res1 (i : Nat) : res ρ (.inl i) = (ρ[i]?).bind Sl.con := rfl
@[simp] theorem v_res2 (d : D) : res ρ (.inr d) = some d := rfl
@[simp] theorem v_resL0 : resL ρ [] = some [] := rfl
@[simp] theorem v_resL1 (o : Opd) (os : List Opd) : resL ρ (o :: os) = (res ρ o).bind fun d => (resL ρ os).bind fun ds => some (d :: ds) := rfl
@[simp] theorem v_con1 (d : D) : Sl.con (.va d) = some d := rfl
@[simp] theorem v_con2 (d : D) : Sl.con (.ow d) = some d := rfl
@[simp] theorem v_con3 (d : D) : Sl.con (.bo d) = some d := rfl
@[simp] theorem v_con4 : Sl.con .no = none := rfl
@[simp] theorem v_vals0 : vals [] = some [] := rfl
@[simp] theorem v_vals1 (d : D) (os : List Opd) : vals (.inr d :: os) = (vals os).bind fun ds => some (d :: ds) := rfl
@[simp] theorem v_dsp (w : List D → D) (fs : Ea) : dsp w fs ρ = (fs ρ).bind fun x => (ofO (vals x.1)).bind fun ds => if ds.length ≤ 1000 then .ok (w ds, x.2) else .bad := rfl
@[simp] theorem v_dspF (fs : Ea) : dspF fs ρ = (fs ρ).bind fun x => (ofO (vals x.1)).bind fun ds => if ds.length ≤ 1000 then .ok (ds, x.2) else .bad := rfl
@[simp] theorem v_tst (f : Eo) : tst f ρ = (f ρ).bind fun x => (ofO ((res x.2 x.1).bind truD)).bind fun b => .ok (b, x.2) := rfl
@[simp] theorem v_tbl (f : Ex) : tbl f ρ = (f ρ).bind fun x => match x.1 with
  | .bl b => .ok (b, x.2)
  | _ => .bad := rfl
@[simp] theorem v_tAnd (f g : Et) : tAndE f g ρ = (f ρ).bind fun x => if x.1 = true then g x.2 else .ok (false, x.2) := rfl
@[simp] theorem v_tOr (f g : Et) : tOrE f g ρ = (f ρ).bind fun x => if x.1 = true then .ok (true, x.2) else g x.2 := rfl
@[simp] theorem v_tNot (f : Et) : tNotE f ρ = (f ρ).bind fun x => .ok (!x.1, x.2) := rfl
@[simp] theorem v_yes : yes ρ = .ok (true, ρ) := rfl
@[simp] theorem v_eAnd (f g : Ex) : eAnd f g ρ = (f ρ).bind fun x => match x.1 with
  | .bl true => g x.2
  | .bl false => .ok (.bl false, x.2)
  | _ => .bad := rfl
@[simp] theorem v_eOr (f g : Ex) : eOr f g ρ = (f ρ).bind fun x => match x.1 with
  | .bl false => g x.2
  | .bl true => .ok (.bl true, x.2)
  | _ => .bad := rfl
@[simp] theorem v_eNot (f : Ex) : eNot f ρ = (f ρ).bind fun x => match x.1 with
  | .bl b => .ok (.bl !b, x.2)
  | _ => .bad := rfl
@[simp] theorem v_eIfM (t : Et) (a b : Em) : eIfM t a b ρ = (t ρ).bind fun x => if x.1 = true then a x.2 else b x.2 := rfl
@[simp] theorem v_chnM (g g' : D → D → Option Bool) (f1 f2 f3 : Eo) : chnM g g' f1 f2 f3 ρ = (f1 ρ).bind fun x => (f2 x.2).bind fun y => (ofO ((res y.2 x.1).bind fun a => (res y.2 y.1).bind fun b => g a b)).bind fun k => if k = true then
    (f3 y.2).bind fun z => (ofO ((res z.2 y.1).bind fun b => (res z.2 z.1).bind fun c => g' b c)).bind fun k' => .ok (.bl k', z.2)
  else .ok (.bl false, y.2) := rfl
@[simp] theorem v_blM (g : D → D → Option Bool) (a b : D) : blM g a b = (g a b).map fun k => .inl (.bl k) := rfl
@[simp] theorem v_slM (f : Eo) (lo hi : Ep) : slM f lo hi ρ = (f ρ).bind fun x => (lo x.2).bind fun l => (hi l.2).bind fun h => (ofO ((res h.2 x.1).bind (slG l.1 h.1))).bind fun d => .ok (d, h.2) := rfl
@[simp] theorem v_pN : pN ρ = .ok (none, ρ) := rfl
@[simp] theorem v_pS (f : Eo) : pS f ρ = (f ρ).bind fun x => (ofO ((res x.2 x.1).bind fun d => match d with
  | .int i => some i
  | _ => none)).bind fun i => .ok (some i, x.2) := rfl
@[simp] theorem v_call (io : Option Nat) (Fn : List D → Out) (fs : Ea) : eCall io Fn fs ρ = (fs ρ).bind fun x => callS io Fn x.1 x.2 := rfl
@[simp] theorem v_call0 (Fn : List D → Out) (os : List Opd) : callS none Fn os ρ = (ofO (vals os)).bind fun ds => match Fn ds with
    | .ret d _ => .ok (d, ρ)
    | .exc c p => .exc c p
    | .bad => .bad := rfl
@[simp] theorem v_itV (f : Ex) : itV f ρ = (f ρ).bind fun x => match x.1 with
  | .lst ds => .ok (ds, x.2)
  | .tup ds => .ok (ds, x.2)
  | _ => .bad := rfl
@[simp] theorem v_itR (g : List D → Option (List D)) (fs : Ea) : itR g fs ρ = (fs ρ).bind fun x => (ofO ((resL x.2 x.1).bind g)).bind fun ds => .ok (ds, x.2) := rfl
@[simp] theorem v_seq (f g : Es) : sSeq f g ρ = (f ρ).bind g := rfl
@[simp] theorem v_skip : sSkip ρ = .next ρ := rfl
@[simp] theorem v_brk : sBrk ρ = .brk ρ := rfl
@[simp] theorem v_cnt : sCnt ρ = .cnt ρ := rfl
@[simp] theorem v_ret (f : Ex) : sRet f ρ = (f ρ).thenS fun x => .ret x.1 x.2 := rfl
@[simp] theorem v_retN : sRetN ρ = .ret .non ρ := rfl
@[simp] theorem v_drop (f : Ex) : sDrop f ρ = (f ρ).thenS fun x => .next x.2 := rfl
@[simp] theorem v_if (t : Et) (a b : Es) : sIf t a b ρ = (t ρ).thenS fun x => if x.1 = true then a x.2 else b x.2 := rfl
@[simp] theorem v_setM (i : Nat) (f : Em) : sSetM i f ρ = (f ρ).thenS fun x => if noBo x.2 i = true then (match x.1 with
  | .inl d => .next (x.2.set i (.va d))
  | .inr ds => .next (x.2.set i (.ow (.lst ds)))) else .bad := rfl
@[simp] theorem v_own (i : Nat) (f : Ef) : sOwn i f ρ = (f ρ).thenS fun x => if noBo x.2 i = true then .next (x.2.set i (.ow (.lst x.1))) else .bad := rfl
@[simp] theorem v_asg (f : Ex) (g : Tg) : sAsg f g ρ = (f ρ).thenS fun x => (g x.1 x.2).thenS fun ρ' => .next ρ' := rfl
@[simp] theorem v_gNm (i : Nat) (d : D) : gNm i d ρ = if noBo ρ i = true then .ok (ρ.set i (.va d)) else .bad := rfl
@[simp] theorem v_gTp (n : Nat) (gs : List Tg) (ds : List D) : gTp n gs (.tup ds) ρ = if ds.length = n then gAll gs ds ρ else .bad := rfl
@[simp] theorem v_gTpL (n : Nat) (gs : List Tg) (ds : List D) : gTp n gs (.lst ds) ρ = if ds.length = n then gAll gs ds ρ else .bad := rfl
@[simp] theorem v_gAll0 : gAll [] [] ρ = .ok ρ := rfl
@[simp] theorem v_gAll1 (g : Tg) (gs : List Tg) (d : D) (ds : List D) : gAll (g :: gs) (d :: ds) ρ = (g d ρ).bind (gAll gs ds) := rfl
@[simp] theorem v_par (is : List Nat) (fs : List Em) : sPar is fs ρ = (parE fs ρ).thenS fun x => .next (setR is x.1 x.2) := rfl
@[simp] theorem v_parE0 : parE [] ρ = .ok ([], ρ) := rfl
@[simp] theorem v_parE1 (f : Em) (fs : List Em) : parE (f :: fs) ρ = (f ρ).bind fun x => (parX x.1 (parE fs x.2)).bind fun y => .ok (x.1 :: y.1, y.2) := rfl
@[simp] theorem v_parX1 (d : D) (r : R α) : parX (.inl d) r = r := rfl
@[simp] theorem v_parX2 (d : List D) (r : R α) : parX (.inr d) r = noX r := rfl
@[simp] theorem v_setR0 (is : List Nat) : setR is [] ρ = ρ := by cases is <;> rfl
@[simp] theorem v_setR1 (i : Nat) (is : List Nat) (r : Res) (rs : List Res) : setR (i :: is) (r :: rs) ρ = setR is rs (ρ.set i (toSl r)) := rfl
@[simp] theorem v_toSl1 (d : D) : toSl (.inl d) = .va d := rfl
@[simp] theorem v_toSl2 (d : List D) : toSl (.inr d) = .ow (.lst d) := rfl
@[simp] theorem v_for (f : Ei) (g : Tg) (b : Es) : sFor f g b ρ = (f ρ).thenS fun x => forL g b x.1 x.2 := rfl
@[simp] theorem v_for0 (g : Tg) (b : Es) : forL g b [] ρ = .next ρ := rfl
@[simp] theorem v_for1 (g : Tg) (b : Es) (d : D) (ds : List D) : forL g b (d :: ds) ρ = (g d ρ).thenS fun ρ1 => (b ρ1).turn (forL g b ds) := rfl
def Sl.nb : Sl → Bool
  | .bo _ => false
  | _ => true
theorem v_noBo (i : Nat) {s : Sl} (h : ρ[i]? = some s) : noBo ρ i = s.nb := by
  unfold noBo
  rw [h]
  cases s <;> rfl
@[simp] theorem v_nb0 : noBo [] i = true := by unfold noBo; simp
@[simp] theorem v_nb1 (s : Sl) (r : Store) : noBo (s :: r) 0 = s.nb := v_noBo _ 0 rfl
@[simp] theorem v_nb2 (s : Sl) (r : Store) (i : Nat) : noBo (s :: r) (i + 1) = noBo r i := by unfold noBo; rw [List.getElem?_cons_succ]
@[simp] theorem v_nbl (s : Sl) (r : Store) (i : Nat) [NeZero i] : noBo (s :: r) i = noBo r (i - 1) := by
  obtain ⟨j, rfl⟩ : ∃ j, i = j + 1 := ⟨i - 1, by have := NeZero.ne i; omega⟩
  rw [v_nb2]; rfl
@[simp] theorem v_nba (d : D) : Sl.nb (.va d) = true := rfl
@[simp] theorem v_nbo (d : D) : Sl.nb (.ow d) = true := rfl
@[simp] theorem v_nbn : Sl.nb .no = true := rfl
@[simp] theorem v_nbs (ns : List Int) : Sl.nb (.sc ns) = true := rfl
@[simp] theorem v_app (i : Nat) (f : Ex) : mApp i f ρ = (pkL i ρ).bind fun ρ0 => (f ρ0).bind fun x => (upOwn x.2 i fun ds => if ds.length < 16777216 then some (ds ++ [x.1]) else none).bind fun ρ' => .ok (.non, ρ') := rfl
@[simp] theorem v_pkL (i : Nat) : pkL i ρ = match ρ[i]? with
  | some (.ow (.lst _)) => .ok ρ
  | some (.bo (.lst _)) => .ok ρ
  | _ => .bad := rfl
@[simp] theorem v_upOwn (i : Nat) (k : List D → Option (List D)) : upOwn ρ i k = match ρ[i]? with
  | some (.ow (.lst ds)) => (ofO (k ds)).bind fun ds' => .ok (ρ.set i (.ow (.lst ds')))
  | some (.bo (.lst ds)) => (ofO (k ds)).bind fun ds' => .ok (ρ.set i (.bo (.lst ds')))
  | _ => .bad := rfl
end
@[simp] theorem v_gSb (ρ : Store) (i : Nat) (fi : Eo) (d : D) : gSb i fi d ρ = (pk i ρ).bind fun o => (fi o.2).bind fun x => (ofO (res x.2 x.1)).bind fun k => match k with
  | .int k => setAt x.2 i k d
  | _ => .bad := rfl
theorem def_io {B : Es} {nN n : Nat} {ds : List D} {d d' : D} (hl : ds.length = n) (h : ∃ ρ, B (startS nN (some 0) ds) = .ret d ρ ∧ ρ[0]? = some (.bo d')) : defSem B nN n (some 0) ds = .ret d (some d') := by
  obtain ⟨ρ, h, h2⟩ := h
  unfold defSem; rw [if_pos hl, h]
  show outOf (some 0) d ρ = _
  unfold outOf
  dsimp only
  rw [h2]
@[simp] theorem v_call1 (Fn : List D → Out) (os : List Opd) (t : D) (r : Store) : callS (some 0) Fn (.inl 0 :: os) (.bo t :: r) = (ofO (vals (.inr t :: os))).bind fun ds => match Fn ds with
    | .ret d (some d') => .ok (d, .bo d' :: r)
    | _ => .bad := rfl
@[simp] theorem v_call2 (Fn : List D → Out) (os : List Opd) (t : D) (s : Sl) (r : Store) : callS (some 0) Fn (.inl 1 :: os) (s :: .ow t :: r) = (ofO (vals (.inr t :: os))).bind fun ds => match Fn ds with
    | .ret d (some d') => .ok (d, s :: .ow d' :: r)
    | _ => .bad := rfl
/-! the tape -/
def tapeD (ns : List Int) (pos rest seed : Int) : D := .lst [.lst (ns.map D.int), .int pos, .int rest, .int seed]
def TapeOk (d : D) : Prop := ∃ ns pos rest seed, d = tapeD ns pos rest seed ∧ 0 ≤ pos ∧ 0 ≤ rest
/-! trees' functions -/
@[simp] theorem d_pow18 : powG (.int 10) (.int 18) = some (.inl (.int 1000000000000000000)) := rfl
theorem d_mul {i j : Int} (h : mulOk i j = true) : mulG (.int i) (.int j) = some (.inl (.int (i * j))) := by
  show (if mulOk i j = true then some (Sum.inl (D.int (i * j))) else none) = _
  rw [if_pos h]
theorem mulOk_r {i j : Int} (h : (decide (-(2 ^ 64) < j) && decide (j < 2 ^ 64)) = true) : mulOk i j = true := by
  unfold mulOk; rw [h, Bool.or_true]
theorem mulOk_l {i j : Int} (h : (decide (-(2 ^ 64) < i) && decide (i < 2 ^ 64)) = true) : mulOk i j = true := by
  unfold mulOk; rw [h, Bool.true_or]
theorem d_mod {i j : Int} (h : j ≠ 0) : modG (.int i) (.int j) = some (.inl (.int (i.fmod j))) := by
  show (if j ≠ 0 then some (Sum.inl (D.int (i.fmod j))) else none) = _
  rw [if_pos h]
theorem d_div {i j : Int} (h : j ≠ 0) (h2 : j.natAbs < 1073741824) : divG (.int i) (.int j) = some (.inl (.int (i.fdiv j))) := by
  show (if j ≠ 0 ∧ j.natAbs < 1073741824 then some (Sum.inl (D.int (i.fdiv j))) else none) = _
  rw [if_pos ⟨h, h2⟩]
theorem d_ixL {xs : List D} {k : Nat} {d : D} (h : xs[k]? = some d) : ixG (.lst xs) (.int (k : Int)) = some (.inl d) := by
  show (atI xs (k : Int)).map _ = _
  rw [atI_nat (j := k) h]; rfl
theorem d_ixT {xs : List D} {k : Nat} {d : D} (h : xs[k]? = some d) : ixG (.tup xs) (.int (k : Int)) = some (.inl d) := by
  show (atI xs (k : Int)).map _ = _
  rw [atI_nat (j := k) h]; rfl
@[simp] theorem d_set1 (a b c d x : D) (r : Store) : setAt (.bo (.lst [a, b, c, d]) :: r) 0 1 x = .ok (.bo (.lst [a, x, c, d]) :: r) := rfl
@[simp] theorem d_set2 (a b c d x : D) (r : Store) : setAt (.bo (.lst [a, b, c, d]) :: r) 0 2 x = .ok (.bo (.lst [a, b, x, d]) :: r) := rfl
@[simp] theorem d_set3 (a b c d x : D) (r : Store) : setAt (.bo (.lst [a, b, c, d]) :: r) 0 3 x = .ok (.bo (.lst [a, b, c, x]) :: r) := rfl
@[simp] theorem d_ix0 (x : D) (r : List D) : ixG (.lst (x :: r)) (.int 0) = some (.inl x) := by simp [ixG, atI, ixN]
@[simp] theorem d_ix1 (x y : D) (r : List D) : ixG (.lst (x :: y :: r)) (.int 1) = some (.inl y) := by
  show (atI _ ((1 : Nat) : Int)).map _ = _
  rw [atI_nat (j := 1) rfl]; rfl
@[simp] theorem d_ix2 (x y z : D) (r : List D) : ixG (.lst (x :: y :: z :: r)) (.int 2) = some (.inl z) := by
  show (atI _ ((2 : Nat) : Int)).map _ = _
  rw [atI_nat (j := 2) rfl]; rfl
@[simp] theorem d_ix3 (x y z w : D) (r : List D) : ixG (.lst (x :: y :: z :: w :: r)) (.int 3) = some (.inl w) := by
  show (atI _ ((3 : Nat) : Int)).map _ = _
  rw [atI_nat (j := 3) rfl]; rfl
@[simp] theorem d_it0 (x : D) (r : List D) : ixG (.tup (x :: r)) (.int 0) = some (.inl x) := by simp [ixG, atI, ixN]
@[simp] theorem d_it1 (x y : D) (r : List D) : ixG (.tup (x :: y :: r)) (.int 1) = some (.inl y) := by
  show (atI _ ((1 : Nat) : Int)).map _ = _
  rw [atI_nat (j := 1) rfl]; rfl
@[simp] theorem d_it2 (x y z : D) (r : List D) : ixG (.tup (x :: y :: z :: r)) (.int 2) = some (.inl z) := by
  show (atI _ ((2 : Nat) : Int)).map _ = _
  rw [atI_nat (j := 2) rfl]; rfl
@[simp] theorem d_add (i j : Int) : addG (.int i) (.int j) = some (.inl (.int (i + j))) := rfl
@[simp] theorem d_sub (i j : Int) : subG (.int i) (.int j) = some (.inl (.int (i - j))) := rfl
@[simp] theorem d_len1 (xs : List D) : lenG [.lst xs] = some (.inl (.int xs.length)) := rfl
@[simp] theorem d_len2 (xs : List D) : lenG [.tup xs] = some (.inl (.int xs.length)) := rfl
@[simp] theorem d_list1 (xs : List D) : listG [.lst xs] = some (.inr xs) := rfl
@[simp] theorem d_list2 (xs : List D) : listG [.tup xs] = some (.inr xs) := rfl
@[simp] theorem d_tup1 (xs : List D) : tupG [.lst xs] = some (.inl (.tup xs)) := rfl
@[simp] theorem d_tup2 (xs : List D) : tupG [.tup xs] = some (.inl (.tup xs)) := rfl
@[simp] theorem d_int (i : Int) : intG [.int i] = some (.inl (.int i)) := rfl
@[simp] theorem d_abs (i : Int) : absG [.int i] = some (.inl (.int (if i < 0 then -i else i))) := rfl
@[simp] theorem d_neg (i : Int) : negG (.int i) = some (.inl (.int (-i))) := rfl
@[simp] theorem d_min2 (i j : Int) : minG [.int i, .int j] = some (.inl (.int (if j < i then j else i))) := rfl
@[simp] theorem d_max2 (i j : Int) : maxG [.int i, .int j] = some (.inl (.int (if j > i then j else i))) := rfl
@[simp] theorem d_eqi (i j : Int) : cmpB .Eq (.int i) (.int j) = some (decide (i = j)) := by
  show eqG (en i) (en j) = _
  exact eqG_en (by decide) i j
@[simp] theorem d_nei (i j : Int) : cmpB .NotEq (.int i) (.int j) = some (decide (i ≠ j)) := by
  show neG (en i) (en j) = _
  exact neG_en (by decide) i j
@[simp] theorem d_eqb (i j : Bool) : cmpB .Eq (.bl i) (.bl j) = some (decide (i = j)) := by
  show eqG (en i) (en j) = _
  exact eqG_en (by decide) i j
@[simp] theorem d_neb (i j : Bool) : cmpB .NotEq (.bl i) (.bl j) = some (decide (i ≠ j)) := by
  show neG (en i) (en j) = _
  exact neG_en (by decide) i j
@[simp] theorem d_lti (i j : Int) : cmpB .Lt (.int i) (.int j) = some (decide (i < j)) := rfl
@[simp] theorem d_lei (i j : Int) : cmpB .LtE (.int i) (.int j) = some (decide (i ≤ j)) := rfl
@[simp] theorem d_gti (i j : Int) : cmpB .Gt (.int i) (.int j) = some (decide (j < i)) := rfl
@[simp] theorem d_gei (i j : Int) : cmpB .GtE (.int i) (.int j) = some (decide (j ≤ i)) := rfl
@[simp] theorem d_isn (d : D) : cmpB .Is d .non = some (isNon d) := by cases d <;> rfl
@[simp] theorem d_nisn (d : D) : cmpB .IsNot d .non = some (!isNon d) := by cases d <;> rfl
@[simp] theorem d_tru1 (b : Bool) : truD (.bl b) = some b := rfl
@[simp] theorem d_tru2 (i : Int) : truD (.int i) = some (i != 0) := rfl
@[simp] theorem d_rg1 : ints1 [.int 8] = some ((List.range 8).map fun i => D.int ((i : Nat) : Int)) := by
  show some (rng 0 ((8 : Nat) : Int)) = _
  rw [rng0]
/-! ### general rows -/
theorem forL_foldI {α S : Type} {g : Tg} {b : Es} {c : α → D} {f : S → α → S} (I : Nat → S → Store → Prop) : ∀ (xs : List α) (n : Nat) (s : S) (ρ : Store), I n s ρ →
    (∀ i x s ρ, x ∈ xs → i < n + xs.length → I i s ρ → ∃ ρ1 ρ2, g (c x) ρ = .ok ρ1 ∧ (b ρ1 = .next ρ2 ∨ b ρ1 = .cnt ρ2) ∧ I (i + 1) (f s x) ρ2) → ∃ ρ', forL g b (xs.map c) ρ = .next ρ' ∧ I (n + xs.length) (xs.foldl f s) ρ'
  | [], n, s, ρ, h, _ => ⟨ρ, rfl, h⟩
  | x :: xs, n, s, ρ, h, hx => by
    obtain ⟨ρ1, ρ2, e1, e2, h2⟩ := hx n x s ρ List.mem_cons_self (by rw [List.length_cons]; omega) h
    obtain ⟨ρ', e3, h3⟩ := forL_foldI I xs (n + 1) (f s x) ρ2 h2 fun i y s ρ hy hi => hx i y s ρ (List.mem_cons_of_mem _ hy) (by rw [List.length_cons]; omega)
    refine ⟨ρ', ?_, by rw [List.length_cons, List.foldl_cons, show n + (xs.length + 1) = n + 1 + xs.length by omega]; exact h3⟩
    rw [List.map_cons, forL, e1, R.thenS_ok]
    rcases e2 with e2 | e2 <;> rw [e2]
    · exact e3
    · exact e3
theorem fold_app {α β : Type} (P : α → Bool) (f : α → β) : ∀ (l : List α) (acc : List β), l.foldl (fun a k => if P k = true then a ++ [f k] else a) acc = acc ++ (l.filter P).map f
  | [], acc => by simp
  | k :: l, acc => by
    rw [List.foldl_cons, fold_app P f l]
    by_cases h : P k = true
    · rw [if_pos h, List.filter_cons_of_pos h]; simp
    · rw [if_neg h, List.filter_cons_of_neg h]

theorem map_en {α β : Type} [DecidableEq β] [DatumOrd β] [Cd β] (xs : List α) (f : α → β) : (xs.map fun p => en (f p)) = (xs.map f).map en := by rw [List.map_map]; rfl
theorem def_ret {B : Es} {nN n : Nat} {ds : List D} {d : D} (hl : ds.length = n) (h : ∃ ρ, B (startS nN none ds) = .ret d ρ) : defSem B nN n none ds = .ret d none := by
  obtain ⟨ρ, h⟩ := h
  unfold defSem; rw [if_pos hl, h]; rfl
/-- [F(x, d) for x in xs] -/
theorem lc_call2 {α : Type} {i j m : Nat} {F : List D → Out} {ρ : Store} {xs : List α} {c h : α → D} {d : D} {s : Sl} (hi : ρ[i]? = some (.va (.lst (xs.map c)))) (hm : ρ[m]? = some (.va d)) (hj : ρ[j]? = some s) (hs : s.own = false) (hij : i ≠ j) (hmj : m ≠ j)
    (hF : ∀ x ∈ xs, F [c x, d] = .ret (h x) none) :
    lcE [j] (itV (mz (pl (rd i)))) (gNm j) yes (mz (pl (eCall none F (aCons (vo (mz (pl (rd j)))) (aCons (vo (mz (pl (rd m)))) xNil))))) ρ = .ok (xs.map h, ρ) := by
  have hjl : j < ρ.length := (List.getElem?_eq_some_iff.mp hj).1
  have hml : (wipeS ρ [j])[m]? = some (.va d) := by rw [wipeS_out (by simpa using hmj)]; exact hm
  refine lcE_all (c := c) xs ?_ ?_ fun x hx => ?_
  · simp [hi]
  · unfold ownOk; simp [hj, hs]
  · refine ⟨(wipeS ρ [j]).set j (.va (c x)), ?_, (wipeS ρ [j]).set j (.va (c x)), ?_, ?_⟩
    · rw [v_gNm, if_pos]
      rw [v_noBo _ j (wipeS_in List.mem_cons_self hjl)]; rfl
    · have e1 : ((wipeS ρ [j]).set j (.va (c x)))[j]? = some (.va (c x)) := by rw [List.getElem?_set_self (by rw [wipeS_len]; exact hjl)]
      have e2 : ((wipeS ρ [j]).set j (.va (c x)))[m]? = some (.va d) := by rw [List.getElem?_set_ne (Ne.symm hmj), hml]
      simp [e1, e2, hF x hx]
    · show ((((ρ.set j .no).set j (.va (c x)))).set j .no) = ρ.set j .no
      rw [List.set_set, List.set_set]
theorem forL_inv {α : Type} {g : Tg} {b : Es} {c : α → D} (I : Nat → Store → Prop) (xs : List α) (n : Nat) (ρ : Store) (h : I n ρ)
    (hx : ∀ i x ρ, x ∈ xs → i < n + xs.length → I i ρ → ∃ ρ1 ρ2, g (c x) ρ = .ok ρ1 ∧ (b ρ1 = .next ρ2 ∨ b ρ1 = .cnt ρ2) ∧ I (i + 1) ρ2) : ∃ ρ', forL g b (xs.map c) ρ = .next ρ' ∧ I (n + xs.length) ρ' :=
  forL_foldI (S := Unit) (f := fun _ _ => ()) (fun i _ ρ => I i ρ) xs n () ρ h fun i x _ ρ hm hi hI => hx i x ρ hm hi hI
theorem rng_lit (n : Nat) (h : n ≤ 1000000) : ints1 [.int (n : Int)] = some ((List.range n).map fun i => D.int ((i : Nat) : Int)) := by
  show (if rgOk 0 (n : Int) = true then some (rng 0 (n : Int)) else none) = _
  rw [if_pos (rgOk_iff.mpr (by omega)), rng0]
end MP

namespace MP
open PySem PySem.Spec PyProof.Rows L2
open PySem.W (Datum DatumOrd)
open Cd (en)

/-! ### evaluation, more rows -/
section
variable {ρ : Store}
@[simp] theorem v_sCl (L : List (Nat × Bool)) (f : Es) : sCl L f ρ = (f ρ).mapS (clean L) := rfl
@[simp] theorem v_sPre (L : List (Nat × Bool)) (f : Es) : sPre L f ρ = f (clean L ρ) := rfl
@[simp] theorem v_mapS1 (g : Store → Store) : (FR.next ρ).mapS g = .next (g ρ) := rfl
@[simp] theorem v_mapS2 (g : Store → Store) : (FR.brk ρ).mapS g = .brk (g ρ) := rfl
@[simp] theorem v_mapS3 (g : Store → Store) : (FR.cnt ρ).mapS g = .cnt (g ρ) := rfl
@[simp] theorem v_mapS4 (g : Store → Store) (d : D) : (FR.ret d ρ).mapS g = .ret d ρ := rfl
@[simp] theorem v_mapS5 (g : Store → Store) : FR.bad.mapS g = .bad := rfl
@[simp] theorem v_clean0 : clean [] ρ = ρ := rfl
@[simp] theorem v_clean1 (i : Nat) (l : List (Nat × Bool)) : clean ((i, true) :: l) ρ = clean l (ρ.set i .no) := rfl
/-- owned no longer -/
def frzAt (i : Nat) (ρ : Store) : Store := match ρ[i]? with
  | some (.ow d) => ρ.set i (.va d)
  | some (.ne sh rows) => ρ.set i (sh.fz rows)
  | _ => ρ
@[simp] theorem v_clean2 (i : Nat) (l : List (Nat × Bool)) : clean ((i, false) :: l) ρ = clean l (frzAt i ρ) := rfl
@[simp] theorem v_frz0 (i : Nat) : frzAt i [] = [] := by unfold frzAt; simp
@[simp] theorem v_frz1 (d : D) (r : Store) : frzAt 0 (.ow d :: r) = .va d :: r := rfl
@[simp] theorem v_frz2 (d : D) (r : Store) : frzAt 0 (.va d :: r) = .va d :: r := rfl
@[simp] theorem v_frz3 (r : Store) : frzAt 0 (.no :: r) = .no :: r := rfl
@[simp] theorem v_frz4 (d : D) (r : Store) : frzAt 0 (.bo d :: r) = .bo d :: r := rfl
@[simp] theorem v_frz5 (ns : List Int) (r : Store) : frzAt 0 (.sc ns :: r) = .sc ns :: r := rfl
@[simp] theorem v_frz6 (kvs : List (D × D)) (t : Bool) (r : Store) : frzAt 0 (.dc kvs t :: r) = .dc kvs t :: r := rfl
@[simp] theorem v_frz7 (x : Str) (r : Store) : frzAt 0 (.fn x :: r) = .fn x :: r := rfl
@[simp] theorem v_frz8 (sh : Shp) (rows : List (List D)) (r : Store) : frzAt 0 (.ne sh rows :: r) = sh.fz rows :: r := rfl
theorem v_frzS (s : Sl) (r : Store) (i : Nat) : frzAt (i + 1) (s :: r) = s :: frzAt i r := by
  unfold frzAt
  rw [List.getElem?_cons_succ]
  cases r[i]? with
  | none => rfl
  | some x => cases x <;> rfl
@[simp] theorem v_frzl (s : Sl) (r : Store) (i : Nat) [NeZero i] : frzAt i (s :: r) = s :: frzAt (i - 1) r := by
  obtain ⟨j, rfl⟩ : ∃ j, i = j + 1 := ⟨i - 1, by have := NeZero.ne i; omega⟩
  rw [v_frzS]; rfl
@[simp] theorem v_tpF (f : Ef) : tpF f ρ = (f ρ).bind fun x => .ok (.tup x.1, x.2) := rfl
@[simp] theorem v_rvI (f : Ei) : rvI f ρ = (f ρ).bind fun x => if x.1.length ≤ 16777216 then .ok (x.1.reverse, x.2) else .bad := rfl
@[simp] theorem v_chnL (f : Eo) (l : List (CmpOp × Eo)) : chnL f l ρ = (f ρ).bind fun x => chL l x.1 x.2 := rfl
@[simp] theorem v_chL1 (op : CmpOp) (f : Eo) (o : Opd) : chL [(op, f)] o ρ = (f ρ).bind fun y => (ofO ((res y.2 o).bind fun a => (res y.2 y.1).bind fun b => cmpB op a b)).bind fun k => .ok (.bl k, y.2) := rfl
@[simp] theorem v_chL2 (op : CmpOp) (f : Eo) (o : Opd) (p : CmpOp × Eo) (r : List (CmpOp × Eo)) : chL ((op, f) :: p :: r) o ρ = (f ρ).bind fun y => (ofO ((res y.2 o).bind fun a => (res y.2 y.1).bind fun b => cmpB op a b)).bind fun k => if k = true then chL (p :: r) y.1 y.2 else .ok (.bl false, y.2) := rfl
@[simp] theorem v_itO (f : Eo) : itO f ρ = (f ρ).bind fun x => match res x.2 x.1 with
  | some (.lst ds) => .ok (ds, x.2)
  | _ => .bad := rfl
theorem whileL_succ (t : Et) (b : Es) (n : Nat) : whileL t b (n + 1) ρ = (t ρ).thenS fun x => if x.1 = true then (b x.2).turn (whileL t b n) else .next x.2 := rfl
@[simp] theorem d_revL (xs : List D) : revG true (.lst xs) = some (.inr xs.reverse) := rfl
@[simp] theorem d_revT (xs : List D) : revG true (.tup xs) = some (.inl (.tup xs.reverse)) := rfl
end
/-- keys by a meaning of the body that leaves the store -/
theorem kyL_map {α : Type} {i : Nat} {f : Ex} {c h : α → D} {ρ : Store} : ∀ xs : List α, (∀ a ∈ xs, f (ρ.set i (.va (c a))) = .ok (h a, ρ.set i (.va (c a)))) → kyL i f (xs.map c) (ρ.set i .no) = .ok (xs.map h, ρ.set i .no)
  | [], _ => rfl
  | x :: xs, hf => by
    have e : (ρ.set i .no).set i (.va (c x)) = ρ.set i (.va (c x)) := List.set_set ..
    show (f ((ρ.set i .no).set i (.va (c x)))).bind _ = _
    rw [e, hf x List.mem_cons_self, R.bind_ok]
    show (kyL i f (xs.map c) ((ρ.set i (.va (c x))).set i .no)).bind _ = _
    rw [List.set_set, kyL_map xs fun a ha => hf a (List.mem_cons_of_mem _ ha)]
    rfl
theorem srtK_map {α : Type} {i : Nat} {it : Ei} {f : Ex} {c h : α → D} {ρ ρ1 : Store} (xs : List α) (hi : it ρ = .ok (xs.map c, ρ1)) (hT : ownOk ρ1 [i] = true) (hf : ∀ a ∈ xs, f (ρ1.set i (.va (c a))) = .ok (h a, ρ1.set i (.va (c a))))
    (h1 : alkL (xs.map h) = true) (h2 : srtb (xs.map h) = true) (h3 : shpL (xs.map h) = true) :
    srtK i it f ρ = .ok ((xs.mergeSort fun a b => leS (h a) (h b)).map c, ρ1) := by
  unfold srtK
  rw [hi, R.bind_ok]
  dsimp only
  rw [if_pos hT, kyL_map xs hf, noX_ok, R.bind_ok]
  dsimp only
  rw [if_pos ⟨h1, h2, h3⟩]
  have e1 : keyOrd (xs.map h) (xs.map c) = (xs.mergeSort fun a b => leS (h a) (h b)).map c := by
    unfold keyOrd
    rw [List.zip_map']
    have m := List.map_mergeSort (r := fun a b : α => leS (h a) (h b)) (s := fun a b : D × D => leS a.1 b.1) (f := fun a => (h a, c a)) (l := xs) fun _ _ _ _ => rfl
    rw [← m, List.map_map]
    rfl
  have e2 : back ρ1 (ρ1.set i .no) [i] = ρ1 := back_wipe (ρ := ρ1) (T := [i])
  rw [e1, e2]
end MP

namespace MP
open PySem PySem.Spec PyProof.Rows L2
open PySem.W (Datum DatumOrd)
open Cd (en)

/-! ### stores as functions -/
def FS (n : Nat) (f : Nat → Sl) : Store := (List.range n).map f
def up (f : Nat → Sl) (i : Nat) (x : Sl) : Nat → Sl := fun j => if j = i then x else f j
def fzS : Sl → Sl
  | .ow d => .va d
  | .ne sh rows => sh.fz rows
  | x => x
section
variable {n : Nat} {f : Nat → Sl}
@[simp] theorem up_app (i : Nat) (x : Sl) (j : Nat) : up f i x j = if j = i then x else f j := rfl
theorem FS_len : (FS n f).length = n := by unfold FS; simp
@[simp] theorem FS_get {i : Nat} (h : i < n) : (FS n f)[i]? = some (f i) := by
  unfold FS; rw [List.getElem?_map, List.getElem?_range h]; rfl
theorem FS_none {i : Nat} (h : ¬ i < n) : (FS n f)[i]? = none := by
  rw [List.getElem?_eq_none]; rw [FS_len]; omega
theorem FS_ext {ρ : Store} (hl : ρ.length = n) (h : ∀ j, j < n → ρ[j]? = some (f j)) : ρ = FS n f := by
  apply List.ext_getElem?
  intro j
  by_cases hj : j < n
  · rw [h j hj, FS_get hj]
  · rw [FS_none hj, List.getElem?_eq_none (by omega)]
@[simp] theorem FS_set (i : Nat) (x : Sl) : (FS n f).set i x = FS n (up f i x) := by
  refine FS_ext (by rw [List.length_set, FS_len]) fun j hj => ?_
  by_cases e : j = i
  · subst e
    rw [List.getElem?_set_self (by rw [FS_len]; exact hj), up_app, if_pos rfl]
  · rw [List.getElem?_set_ne (Ne.symm e), FS_get hj, up_app, if_neg e]
theorem FS_congr {g : Nat → Sl} (h : ∀ j, j < n → f j = g j) : FS n f = FS n g := FS_ext FS_len fun j hj => by rw [FS_get hj, h j hj]
@[simp] theorem fz1 (d : D) : fzS (.ow d) = .va d := rfl
@[simp] theorem fz2 (d : D) : fzS (.va d) = .va d := rfl
@[simp] theorem fz3 : fzS .no = .no := rfl
@[simp] theorem fz4 (d : D) : fzS (.bo d) = .bo d := rfl
@[simp] theorem fz5 (d : List Int) : fzS (.sc d) = .sc d := rfl
@[simp] theorem fz6 (d : List (D × D)) (t : Bool) : fzS (.dc d t) = .dc d t := rfl
@[simp] theorem fz7 (x : Str) : fzS (.fn x) = .fn x := rfl
@[simp] theorem fz8 (sh : Shp) (rows : List (List D)) : fzS (.ne sh rows) = sh.fz rows := rfl
@[simp] theorem FS_frz {i : Nat} (h : i < n) : frzAt i (FS n f) = FS n (up f i (fzS (f i))) := by
  unfold frzAt
  rw [FS_get h]
  have same : FS n f = FS n (up f i (f i)) := FS_congr fun j hj => by
    rw [up_app]; split
    · rename_i e; rw [e]
    · rfl
  cases e : f i <;> dsimp only [fzS] <;> first | rw [FS_set] | (rw [e] at same; exact same)
@[simp] theorem FS_noBo {i : Nat} (h : i < n) : noBo (FS n f) i = (f i).nb := v_noBo _ i (FS_get h)
@[simp] theorem FS_wipe0 : wipeS (FS n f) [] = FS n f := rfl
@[simp] theorem FS_wipe1 (i : Nat) (T : List Nat) : wipeS (FS n f) (i :: T) = (wipeS (FS n f) T).set i .no := rfl
theorem FS_wipe (T : List Nat) : wipeS (FS n f) T = FS n fun j => if j ∈ T then .no else f j := by
  refine FS_ext (by rw [wipeS_len, FS_len]) fun j hj => ?_
  by_cases h : j ∈ T
  · rw [wipeS_in h (by rw [FS_len]; exact hj), if_pos h]
  · rw [wipeS_out h, FS_get hj, if_neg h]
theorem FS_ownOk {T : List Nat} (h : ∀ i ∈ T, (f i).own = false) : ownOk (FS n f) T = true := by
  unfold ownOk
  rw [List.all_eq_true]
  intro i hi
  by_cases hn : i < n
  · rw [FS_get hn]; show (!(f i).own) = true; rw [h i hi]; rfl
  · rw [FS_none hn]
@[simp] theorem FS_call (Fn : List D → Out) (i : Nat) (h : i < n) (t : D) (os : List Opd) (hf : f i = .ow t) : callS (some 0) Fn (.inl i :: os) (FS n f) = (ofO (vals (.inr t :: os))).bind fun ds => match Fn ds with
    | .ret d (some t') => .ok (d, FS n (up f i (.ow t')))
    | _ => .bad := by
  have e : callS (some 0) Fn (.inl i :: os) (FS n f) = (match (FS n f)[i]? with
      | some (.ow d0) => ioS Fn (.inl i :: os) 0 i d0 .ow (FS n f)
      | some (.bo d0) => ioS Fn (.inl i :: os) 0 i d0 .bo (FS n f)
      | _ => .bad) := rfl
  rw [e, FS_get h, hf]
  show ioS Fn (.inl i :: os) 0 i t .ow (FS n f) = _
  unfold ioS
  rw [List.set_cons_zero]
  cases vals (.inr t :: os) with
  | none => rfl
  | some ds =>
    rw [ofO_some, R.bind_ok, R.bind_ok]
    cases Fn ds with
    | ret d o => cases o <;> simp
    | exc c p => rfl
    | bad => rfl
/-- one name for the items -/
theorem lcF {α : Type} {T : List Nat} {it : Ei} {g : Tg} {tt : Et} {elt : Ex} {ρ : Store} {c h : α → D} {P : α → Bool} {F : α → Nat → Sl} (xs : List α) (hi : it ρ = .ok (xs.map c, FS n f)) (ho : ∀ i ∈ T, (f i).own = false)
    (hg : ∀ x ∈ xs, g (c x) (wipeS (FS n f) T) = .ok (FS n (F x))) (hF : ∀ x ∈ xs, ∀ j, j ∉ T → F x j = f j)
    (hx : ∀ x ∈ xs, tt (FS n (F x)) = .ok (P x, FS n (F x)) ∧ (P x = true → elt (FS n (F x)) = .ok (h x, FS n (F x)))) :
    lcE T it g tt elt ρ = .ok ((xs.filter P).map h, FS n f) := by
  refine lcE_map xs hi (FS_ownOk ho) fun x hm => ⟨_, _, hg x hm, (hx x hm).1, fun hp => ⟨_, (hx x hm).2 hp, ?_⟩, fun _ => ?_⟩
  all_goals
    rw [FS_wipe, FS_wipe]
    refine FS_congr fun j _ => ?_
    by_cases hj : j ∈ T
    · rw [if_pos hj, if_pos hj]
    · rw [if_neg hj, if_neg hj, hF x hm j hj]
theorem lc1 {α : Type} {i : Nat} {it : Ei} {tt : Et} {elt : Ex} {ρ : Store} {c h : α → D} {P : α → Bool} (xs : List α) (hn : i < n) (hi : it ρ = .ok (xs.map c, FS n f)) (ho : (f i).own = false)
    (hx : ∀ x ∈ xs, tt (FS n (up f i (.va (c x)))) = .ok (P x, FS n (up f i (.va (c x)))) ∧ (P x = true → elt (FS n (up f i (.va (c x)))) = .ok (h x, FS n (up f i (.va (c x)))))) :
    lcE [i] it (gNm i) tt elt ρ = .ok ((xs.filter P).map h, FS n f) :=
  lcF (F := fun x => up f i (.va (c x))) xs hi (fun j hj => by rw [List.mem_singleton.mp hj]; exact ho) (fun x _ => by
    rw [FS_wipe1, FS_wipe0, FS_set, v_gNm, FS_noBo hn, up_app, if_pos rfl, if_pos (show Sl.no.nb = true from rfl), FS_set]
    refine congrArg R.ok (FS_congr fun j _ => ?_)
    rw [up_app, up_app, up_app]
    split <;> rfl) (fun x _ j hj => by rw [up_app, if_neg (by simpa using hj)]) hx
theorem lc1a {α : Type} {i : Nat} {it : Ei} {elt : Ex} {ρ : Store} {c h : α → D} (xs : List α) (hn : i < n) (hi : it ρ = .ok (xs.map c, FS n f)) (ho : (f i).own = false)
    (hx : ∀ x ∈ xs, elt (FS n (up f i (.va (c x)))) = .ok (h x, FS n (up f i (.va (c x))))) :
    lcE [i] it (gNm i) yes elt ρ = .ok (xs.map h, FS n f) := by
  have := lc1 (P := fun _ => true) (tt := yes) (h := h) xs hn hi ho fun x hm => ⟨rfl, fun _ => hx x hm⟩
  rwa [List.filter_eq_self.mpr fun _ _ => rfl] at this
/-- .. the store kept up to I -/
theorem lcL_I {α : Type} {T : List Nat} {g : Tg} {tt : Et} {elt : Ex} {c : α → D} {h : α → D} {P : α → Bool} (I : Store → Prop) : ∀ (xs : List α) (ρ : Store), I ρ →
    (∀ x ∈ xs, ∀ ρ, I ρ → ∃ ρ1 ρ2, g (c x) ρ = .ok ρ1 ∧ tt ρ1 = .ok (P x, ρ2) ∧ (P x = true → ∃ ρ3, elt ρ2 = .ok (h x, ρ3) ∧ I (wipeS ρ3 T)) ∧ (P x = false → I (wipeS ρ2 T))) →
    ∃ ρ', lcL T g tt elt (xs.map c) ρ = .ok ((xs.filter P).map h, ρ') ∧ I ρ'
  | [], ρ, h0, _ => ⟨ρ, rfl, h0⟩
  | x :: xs, ρ, h0, hx => by
    obtain ⟨ρ1, ρ2, e1, e2, e3, e4⟩ := hx x List.mem_cons_self ρ h0
    cases hp : P x with
    | true =>
      obtain ⟨ρ3, e5, e6⟩ := e3 hp
      obtain ⟨ρ', e7, e8⟩ := lcL_I I xs _ e6 fun y hy => hx y (List.mem_cons_of_mem _ hy)
      refine ⟨ρ', ?_, e8⟩
      rw [List.map_cons, lcL, e1, R.bind_ok, e2, R.bind_ok, hp, if_pos rfl, e5, R.bind_ok, e7, List.filter_cons_of_pos hp]; rfl
    | false =>
      obtain ⟨ρ', e7, e8⟩ := lcL_I I xs _ (e4 hp) fun y hy => hx y (List.mem_cons_of_mem _ hy)
      refine ⟨ρ', ?_, e8⟩
      rw [List.map_cons, lcL, e1, R.bind_ok, e2, R.bind_ok, hp, if_neg Bool.false_ne_true, e7, List.filter_cons_of_neg (by simp [hp])]
theorem lc1I {α : Type} {i : Nat} {it : Ei} {tt : Et} {elt : Ex} {ρ : Store} {c h : α → D} {P : α → Bool} (I : (Nat → Sl) → Prop) (xs : List α) (hn : i < n) (hi : it ρ = .ok (xs.map c, FS n f)) (ho : (f i).own = false) (h0 : I f) (hI : ∀ f x, I f → I (up f i x))
    (hx : ∀ x ∈ xs, ∀ f, I f → f i = .va (c x) → ∃ f2, tt (FS n f) = .ok (P x, FS n f2) ∧ I f2 ∧ (P x = true → ∃ f3, elt (FS n f2) = .ok (h x, FS n f3) ∧ I f3)) :
    ∃ f', lcE [i] it (gNm i) tt elt ρ = .ok ((xs.filter P).map h, FS n f') ∧ I f' ∧ f' i = f i := by
  have hT : ∀ f : Nat → Sl, wipeS (FS n f) [i] = FS n (up f i .no) := fun f => by rw [FS_wipe1, FS_wipe0, FS_set]
  obtain ⟨ρ', e, f1, h1, h2, h3⟩ := lcL_I (T := [i]) (g := gNm i) (tt := tt) (elt := elt) (c := c) (h := h) (P := P) (fun ρ => ∃ f1, ρ = FS n f1 ∧ I f1 ∧ f1 i = .no) xs (wipeS (FS n f) [i]) ⟨_, hT f, hI _ _ h0, by rw [up_app, if_pos rfl]⟩ fun x hm ρ ⟨f1, h1, h2, h3⟩ => by
    subst h1
    obtain ⟨f2, e1, i2, e2⟩ := hx x hm (up f1 i (.va (c x))) (hI _ _ h2) (by rw [up_app, if_pos rfl])
    refine ⟨FS n (up f1 i (.va (c x))), FS n f2, ?_, e1, fun hp => ?_, fun _ => ⟨_, hT f2, hI _ _ i2, by rw [up_app, if_pos rfl]⟩⟩
    · rw [v_gNm, FS_noBo hn, h3, if_pos (show Sl.no.nb = true from rfl), FS_set]
    · obtain ⟨f3, e3, i3⟩ := e2 hp
      exact ⟨_, e3, _, hT f3, hI _ _ i3, by rw [up_app, if_pos rfl]⟩
  subst h1
  refine ⟨up f1 i (f i), ?_, hI _ _ h2, by rw [up_app, if_pos rfl]⟩
  unfold lcE
  rw [hi, R.bind_ok, if_pos (FS_ownOk fun j hj => by rw [List.mem_singleton.mp hj]; exact ho), e]
  show R.ok (_, (FS n f1).set i ((FS n f).getD i .no)) = _
  rw [FS_set, List.getD_eq_getElem?_getD, FS_get hn]; rfl
theorem srtF {α : Type} {i : Nat} {it : Ei} {k : Ex} {ρ : Store} {c h : α → D} (xs : List α) (hn : i < n) (hi : it ρ = .ok (xs.map c, FS n f)) (ho : (f i).own = false)
    (hk : ∀ a ∈ xs, k (FS n (up f i (.va (c a)))) = .ok (h a, FS n (up f i (.va (c a))))) (h1 : alkL (xs.map h) = true) (h2 : srtb (xs.map h) = true) (h3 : shpL (xs.map h) = true) :
    srtK i it k ρ = .ok ((xs.mergeSort fun a b => leS (h a) (h b)).map c, FS n f) :=
  srtK_map xs hi (FS_ownOk fun j hj => by rw [List.mem_singleton.mp hj]; exact ho) (fun a ha => by rw [FS_set]; exact hk a ha) h1 h2 h3
theorem forF {α S : Type} {g : Tg} {b : Es} {c : α → D} {step : S → α → S} (I : S → (Nat → Sl) → Prop) : ∀ (xs : List α), (∀ x ∈ xs, ∀ s f, I s f → ∃ f1 f2, g (c x) (FS n f) = .ok (FS n f1) ∧ (b (FS n f1) = .next (FS n f2) ∨ b (FS n f1) = .cnt (FS n f2)) ∧ I (step s x) f2) →
    ∀ s f, I s f → ∃ f', forL g b (xs.map c) (FS n f) = .next (FS n f') ∧ I (xs.foldl step s) f'
  | [], _, s, f, h => ⟨f, rfl, h⟩
  | x :: xs, hs, s, f, h => by
    obtain ⟨f1, f2, e1, e2, h2⟩ := hs x List.mem_cons_self s f h
    obtain ⟨f', e3, h3⟩ := forF I xs (fun y hy => hs y (List.mem_cons_of_mem _ hy)) (step s x) f2 h2
    refine ⟨f', ?_, h3⟩
    rw [List.map_cons, forL, e1, R.thenS_ok]
    rcases e2 with e2 | e2 <;> rw [e2]
    · exact e3
    · exact e3
end
/-- the items known one by one, with what is still to come -/
theorem forL_foldS {α S : Type} {g : Tg} {b : Es} {c : α → D} {f : S → α → S} (I : List α → S → Store → Prop) (step : ∀ x r s ρ, I (x :: r) s ρ → ∃ ρ1 ρ2, g (c x) ρ = .ok ρ1 ∧ (b ρ1 = .next ρ2 ∨ b ρ1 = .cnt ρ2) ∧ I r (f s x) ρ2) :
    ∀ (xs : List α) (s : S) (ρ : Store), I xs s ρ → ∃ ρ', forL g b (xs.map c) ρ = .next ρ' ∧ I [] (xs.foldl f s) ρ'
  | [], s, ρ, h => ⟨ρ, rfl, h⟩
  | x :: xs, s, ρ, h => by
    obtain ⟨ρ1, ρ2, e1, e2, h2⟩ := step x xs s ρ h
    obtain ⟨ρ', e3, h3⟩ := forL_foldS I step xs (f s x) ρ2 h2
    refine ⟨ρ', ?_, h3⟩
    rw [List.map_cons, forL, e1, R.thenS_ok]
    rcases e2 with e2 | e2 <;> rw [e2]
    · exact e3
    · exact e3
end MP

namespace MP
open PySem PySem.Spec PyProof.Rows L2
/-! ### the text -/
def topS (i : Nat) : Stmt := PySem.Challenge.pw_pointwright_k78_whole_ways_between_nets.main.body.getD i (.Pass ⟨0, 0, 0, 0⟩)
def s_ (x : String) : Str := Str.ofString x
def blN : List Str := [s_ "len", s_ "abs", s_ "all", s_ "sorted", s_ "int", s_ "list", s_ "tuple", s_ "isinstance", s_ "bool", s_ "str", s_ "range", s_ "super"]
def csN : List (Str × D) := []
def g_0 : List (Str × FnI) := []
def erN : List Str := [s_ "TooLarge", s_ "InvalidTable"]
def ak__law_asked : List (Str × Str) := [(s_ "InvalidTable", s_ "refused"), (s_ "PointwrightError", s_ "other")]
def akN : List (Str × List (Str × Str)) := [(s_ "_law_asked", ak__law_asked)]
def N_is_whole : List Str := [s_ "value"]
def an_is_whole : List (Nat × List (Nat × Bool)) := []
def xc_is_whole : List (Str × Nat) := []
def al_is_whole : List (Str × Str) := []
def B_is_whole : Es :=
  (sRet (mz (pl (eAnd (mz (op1M (isaG "int") (pk 0))) (mz (pl (eNot (mz (op1M (isaG "bool") (pk 0))))))))))
def f_is_whole : List D → Out := defSem B_is_whole 1 1 none
theorem c_is_whole : (cp 60).L (ceOf N_is_whole (topS 5) g_0 csN blN none an_is_whole false xc_is_whole al_is_whole erN akN) (defBody (topS 5)) = some B_is_whole := by kernel_rfl
def g_1 : List (Str × FnI) := (s_ "is_whole", ⟨1, none, f_is_whole⟩) :: g_0
theorem sc_is_whole : FnScope N_is_whole [s_ "value"] (defScope (topS 5)) := ⟨rfl, rfl, rfl, by decide +kernel, rfl, by decide +kernel, by decide +kernel⟩
def N_half_square : List Str := [s_ "many"]
def an_half_square : List (Nat × List (Nat × Bool)) := []
def xc_half_square : List (Str × Nat) := []
def al_half_square : List (Str × Str) := []
def B_half_square : Es :=
  (sRet (mz (op2M divG (vo (mz (op2M mulG (pk 0) (vo (mz (op2M subG (pk 0) (vo (mz (pl (cst (.int 1))))))))))) (vo (mz (pl (cst (.int 2))))))))
def f_half_square : List D → Out := defSem B_half_square 1 1 none
theorem c_half_square : (cp 60).L (ceOf N_half_square (topS 7) g_1 csN blN none an_half_square false xc_half_square al_half_square erN akN) (defBody (topS 7)) = some B_half_square := by kernel_rfl
def g_2 : List (Str × FnI) := (s_ "half_square", ⟨1, none, f_half_square⟩) :: g_1
theorem sc_half_square : FnScope N_half_square [s_ "many"] (defScope (topS 7)) := ⟨rfl, rfl, rfl, by decide +kernel, rfl, by decide +kernel, by decide +kernel⟩
def W_order_behind_1 : Es :=
  sCl [(3, true), (0, true), (1, false)] (sAsg (mz (pl (dsp .tup (xCons (mz (op2M ixG (pk 2) (vo (mz (op2M addG (pk 3) (vo (mz (pl (cst (.int 1)))))))))) (xCons (mz (op2M ixG (pk 2) (pk 3))) xNil))))) (gTp 2 [(gSb 2 (pk 3)), (gSb 2 (vo (mz (op2M addG (pk 3) (vo (mz (pl (cst (.int 1)))))))))]))
def N_order_behind : List Str := [s_ "many", s_ "word", s_ "now", s_ "k"]
def an_order_behind : List (Nat × List (Nat × Bool)) := [(26, [(3, true), (0, true), (1, false)])]
def xc_order_behind : List (Str × Nat) := []
def al_order_behind : List (Str × Str) := []
def B_order_behind : Es :=
  (sSeq (sSetM 2 (nw (itR ints1 (aCons (pk 0) xNil))))
  (sSeq (sPre [(3, true), (0, true), (1, false)] (sFor (itV (mz (pl (rd 1)))) (gNm 3) W_order_behind_1))
  (sRet (mz (opNM tupG (aCons (pk 2) xNil))))))
def f_order_behind : List D → Out := defSem B_order_behind 4 2 none
theorem c_order_behind : (cp 60).L (ceOf N_order_behind (topS 8) g_2 csN blN none an_order_behind false xc_order_behind al_order_behind erN akN) (defBody (topS 8)) = some B_order_behind := by kernel_rfl
def g_3 : List (Str × FnI) := (s_ "order_behind", ⟨2, none, f_order_behind⟩) :: g_2
theorem sc_order_behind : FnScope N_order_behind [s_ "many", s_ "word"] (defScope (topS 8)) := ⟨rfl, rfl, rfl, by decide +kernel, rfl, by decide +kernel, by decide +kernel⟩
def C_is_net_1 : Ef :=
  lcE [2] (itV (mz (pl (rd 1)))) (gNm 2) yes (mz (pl (eAnd (mz (pl (eCall none f_is_whole (aCons (vo (mz (pl (rd 2)))) xNil)))) (mz (pl (chnM (cmpB .LtE) (cmpB .Lt) (vo (mz (pl (cst (.int 0))))) (pk 2) (vo (mz (op2M subG (pk 0) (vo (mz (pl (cst (.int 1))))))))))))))
def N_is_net : List Str := [s_ "many", s_ "value", s_ "k"]
def an_is_net : List (Nat × List (Nat × Bool)) := [(30, [(0, false), (1, false)]), (32, [(0, false), (1, false)])]
def xc_is_net : List (Str × Nat) := []
def al_is_net : List (Str × Str) := []
def B_is_net : Es :=
  (sSeq (sCl [(0, false), (1, false)] (sIf (tOrE (tNotE (tst (vo (mz (op1M (isaG "tuple") (pk 1)))))) (tNotE (tst (vo (mz (opNM allG (aCons (vo (mz (nw C_is_net_1))) xNil))))))) (sRet (mz (pl (cst (.bl false))))) sSkip))
  (sSeq (sCl [(0, false), (1, false)] (sIf (tbl (mz (op2M (blM (cmpB .NotEq)) (vo (mz (opNM lenG (aCons (pk 1) xNil)))) (vo (mz (pl (eCall none f_half_square (aCons (vo (mz (pl (rd 0)))) xNil)))))))) (sRet (mz (pl (cst (.bl false))))) sSkip))
  (sRet (mz (op2M (blM (cmpB .Eq)) (vo (mz (pl (eCall none f_order_behind (aCons (vo (mz (pl (rd 0)))) (aCons (vo (mz (pl (rd 1)))) xNil)))))) (vo (mz (op1M (revG true) (vo (mz (pl (tpF (itR ints1 (aCons (pk 0) xNil))))))))))))))
def f_is_net : List D → Out := defSem B_is_net 3 2 none
theorem c_is_net : (cp 60).L (ceOf N_is_net (topS 9) g_3 csN blN none an_is_net false xc_is_net al_is_net erN akN) (defBody (topS 9)) = some B_is_net := by kernel_rfl
def g_4 : List (Str × FnI) := (s_ "is_net", ⟨2, none, f_is_net⟩) :: g_3
theorem sc_is_net : FnScope N_is_net [s_ "many", s_ "value"] (defScope (topS 9)) := ⟨rfl, rfl, rfl, by decide +kernel, rfl, by decide +kernel, by decide +kernel⟩
def W_all_nets_1 : Es :=
  sCl [(6, true), (0, false), (1, false), (5, false), (4, false)] (sCl [(6, true), (0, false), (1, false), (5, false), (4, false)] (sIf (tbl (mz (op2M (blM (cmpB .Lt)) (vo (mz (op2M ixG (pk 5) (pk 6)))) (vo (mz (op2M ixG (pk 5) (vo (mz (op2M addG (pk 6) (vo (mz (pl (cst (.int 1)))))))))))))) (sDrop (mz (pl (mApp 3 (mz (pl (dsp .tup (xCons (mz (op2M addG (pk 4) (vo (mz (pl (dsp .tup (xCons (mz (pl (rd 6))) xNil))))))) (xCons (mz (op2M addG (vo (mz (op2M addG (vo (mz (slM (pk 5) pN (pS (pk 6))))) (vo (mz (pl (dsp .tup (xCons (mz (op2M ixG (pk 5) (vo (mz (op2M addG (pk 6) (vo (mz (pl (cst (.int 1)))))))))) (xCons (mz (op2M ixG (pk 5) (pk 6))) xNil))))))))) (vo (mz (slM (pk 5) (pS (vo (mz (op2M addG (pk 6) (vo (mz (pl (cst (.int 2))))))))) pN))))) xNil))))))))) sSkip))
def T_all_nets_1 : Et :=
  (tbl (mz (op2M (blM (cmpB .NotEq)) (pk 3) (vo (mz (nw (dspF xNil)))))))
def W_all_nets_2 : Es :=
  sCl [(6, true), (0, false), (1, false), (5, true), (4, true)] (sSeq (sAsg (mz (pl (mPop 3))) (gTp 2 [(gNm 4), (gNm 5)]))
  (sSeq (sCl [(6, true), (0, false), (1, false), (5, false), (4, false)] (sIf (tbl (mz (op2M (blM (cmpB .Eq)) (vo (mz (opNM lenG (aCons (pk 4) xNil)))) (vo (mz (pl (eCall none f_half_square (aCons (vo (mz (pl (rd 0)))) xNil)))))))) (sSeq (sDrop (mz (pl (mApp 2 (mz (pl (rd 4)))))))
  (sSeq (sCl [(6, true), (0, false), (1, false), (5, true), (4, true)] (sIf (tbl (mz (op2M (blM (cmpB .Gt)) (vo (mz (opNM lenG (aCons (pk 2) xNil)))) (pk 1)))) (sExc (s_ "TooLarge") (mz (pl (rd 1)))) sSkip))
  sCnt)) sSkip))
  (sPre [(6, true), (0, false), (1, false), (5, false), (4, false)] (sFor (itR ints1 (aCons (vo (mz (op2M subG (pk 0) (vo (mz (pl (cst (.int 1)))))))) xNil)) (gNm 6) W_all_nets_1))))
def N_all_nets : List Str := [s_ "many", s_ "most", s_ "found", s_ "waiting", s_ "word", s_ "now", s_ "k"]
def an_all_nets : List (Nat × List (Nat × Bool)) := [(41, [(6, true), (0, false), (1, false), (5, true), (4, true)]), (43, [(6, true), (0, false), (1, false), (5, false), (4, false)]), (48, [(6, true), (0, false), (1, false), (5, false), (4, false)]), (45, [(6, true), (0, false), (1, false), (5, true), (4, true)]), (49, [(6, true), (0, false), (1, false), (5, false), (4, false)])]
def xc_all_nets : List (Str × Nat) := []
def al_all_nets : List (Str × Str) := []
def B_all_nets : Es :=
  (sSeq (sSetM 2 (nw (dspF xNil)))
  (sSeq (sSetM 3 (nw (dspF (xCons (mz (pl (dsp .tup (xCons (mz (pl (dsp .tup xNil))) (xCons (mz (pl (tpF (itR ints1 (aCons (pk 0) xNil))))) xNil))))) xNil))))
  (sSeq (sPre [(6, true), (0, false), (1, false), (5, true), (4, true)] (sWh T_all_nets_1 W_all_nets_2))
  (sRet (mz (opNM sortG (aCons (pk 2) xNil)))))))
def f_all_nets : List D → Out := defSem B_all_nets 7 2 none
theorem c_all_nets : (cp 60).L (ceOf N_all_nets (topS 11) g_4 csN blN none an_all_nets false xc_all_nets al_all_nets erN akN) (defBody (topS 11)) = some B_all_nets := by kernel_rfl
def g_5 : List (Str × FnI) := (s_ "all_nets", ⟨2, none, f_all_nets⟩) :: g_4
theorem sc_all_nets : FnScope N_all_nets [s_ "many", s_ "most"] (defScope (topS 11)) := ⟨rfl, rfl, rfl, by decide +kernel, rfl, by decide +kernel, by decide +kernel⟩
def N_check_net : List Str := [s_ "many", s_ "word"]
def an_check_net : List (Nat × List (Nat × Bool)) := [(36, [(0, true), (1, true)])]
def xc_check_net : List (Str × Nat) := []
def al_check_net : List (Str × Str) := []
def B_check_net : Es :=
  (sCl [(0, true), (1, true)] (sIf (tNotE (tst (vo (mz (pl (eCall none f_is_net (aCons (vo (mz (pl (rd 0)))) (aCons (vo (mz (pl (rd 1)))) xNil)))))))) (sExc (s_ "InvalidTable") (mz (pl (rd 1)))) sSkip))
def f_check_net : List D → Out := defSem B_check_net 2 2 none
theorem c_check_net : (cp 60).L (ceOf N_check_net (topS 10) g_5 csN blN none an_check_net false xc_check_net al_check_net erN akN) (defBody (topS 10)) = some B_check_net := by kernel_rfl
def g_6 : List (Str × FnI) := (s_ "check_net", ⟨2, none, f_check_net⟩) :: g_5
theorem sc_check_net : FnScope N_check_net [s_ "many", s_ "word"] (defScope (topS 10)) := ⟨rfl, rfl, rfl, by decide +kernel, rfl, by decide +kernel, by decide +kernel⟩
def C_far_moves_1 : Ef :=
  lcE [1] (itR ints1 (aCons (vo (mz (op2M subG (vo (mz (opNM lenG (aCons (pk 0) xNil)))) (vo (mz (pl (cst (.int 1)))))))) xNil)) (gNm 1) (tbl (mz (op2M (blM (cmpB .Gt)) (vo (mz (opNM absG (aCons (vo (mz (op2M subG (vo (mz (op2M ixG (pk 0) (pk 1)))) (vo (mz (op2M ixG (pk 0) (vo (mz (op2M addG (pk 1) (vo (mz (pl (cst (.int 1)))))))))))))) xNil)))) (vo (mz (pl (cst (.int 1)))))))) (mz (pl (rd 1)))
def N_far_moves : List Str := [s_ "word", s_ "k"]
def an_far_moves : List (Nat × List (Nat × Bool)) := []
def xc_far_moves : List (Str × Nat) := []
def al_far_moves : List (Str × Str) := []
def B_far_moves : Es :=
  (sRet (mz (nw C_far_moves_1)))
def f_far_moves : List D → Out := defSem B_far_moves 2 1 none
theorem c_far_moves : (cp 60).L (ceOf N_far_moves (topS 12) g_6 csN blN none an_far_moves false xc_far_moves al_far_moves erN akN) (defBody (topS 12)) = some B_far_moves := by kernel_rfl
def g_7 : List (Str × FnI) := (s_ "far_moves", ⟨1, none, f_far_moves⟩) :: g_6
theorem sc_far_moves : FnScope N_far_moves [s_ "word"] (defScope (topS 12)) := ⟨rfl, rfl, rfl, by decide +kernel, rfl, by decide +kernel, by decide +kernel⟩
def C_near_moves_1 : Ef :=
  lcE [1] (itR ints1 (aCons (vo (mz (op2M subG (vo (mz (opNM lenG (aCons (pk 0) xNil)))) (vo (mz (pl (cst (.int 2)))))))) xNil)) (gNm 1) (tAndE (tbl (mz (op2M (blM (cmpB .Eq)) (vo (mz (op2M ixG (pk 0) (pk 1)))) (vo (mz (op2M ixG (pk 0) (vo (mz (op2M addG (pk 1) (vo (mz (pl (cst (.int 2)))))))))))))) (tbl (mz (op2M (blM (cmpB .Eq)) (vo (mz (opNM absG (aCons (vo (mz (op2M subG (vo (mz (op2M ixG (pk 0) (pk 1)))) (vo (mz (op2M ixG (pk 0) (vo (mz (op2M addG (pk 1) (vo (mz (pl (cst (.int 1)))))))))))))) xNil)))) (vo (mz (pl (cst (.int 1))))))))) (mz (pl (rd 1)))
def N_near_moves : List Str := [s_ "word", s_ "k"]
def an_near_moves : List (Nat × List (Nat × Bool)) := []
def xc_near_moves : List (Str × Nat) := []
def al_near_moves : List (Str × Str) := []
def B_near_moves : Es :=
  (sRet (mz (nw C_near_moves_1)))
def f_near_moves : List D → Out := defSem B_near_moves 2 1 none
theorem c_near_moves : (cp 60).L (ceOf N_near_moves (topS 13) g_7 csN blN none an_near_moves false xc_near_moves al_near_moves erN akN) (defBody (topS 13)) = some B_near_moves := by kernel_rfl
def g_8 : List (Str × FnI) := (s_ "near_moves", ⟨1, none, f_near_moves⟩) :: g_7
theorem sc_near_moves : FnScope N_near_moves [s_ "word"] (defScope (topS 13)) := ⟨rfl, rfl, rfl, by decide +kernel, rfl, by decide +kernel, by decide +kernel⟩
def N_moved_word : List Str := [s_ "word", s_ "kind", s_ "k"]
def an_moved_word : List (Nat × List (Nat × Bool)) := [(57, [(2, false), (1, true), (0, false)])]
def xc_moved_word : List (Str × Nat) := []
def al_moved_word : List (Str × Str) := []
def B_moved_word : Es :=
  (sSeq (sCl [(2, false), (1, true), (0, false)] (sIf (tbl (mz (op2M (blM (cmpB .Eq)) (pk 1) (vo (mz (pl (cst (.str (s_ "far"))))))))) (sRet (mz (op2M addG (vo (mz (op2M addG (vo (mz (slM (pk 0) pN (pS (pk 2))))) (vo (mz (pl (dsp .tup (xCons (mz (op2M ixG (pk 0) (vo (mz (op2M addG (pk 2) (vo (mz (pl (cst (.int 1)))))))))) (xCons (mz (op2M ixG (pk 0) (pk 2))) xNil))))))))) (vo (mz (slM (pk 0) (pS (vo (mz (op2M addG (pk 2) (vo (mz (pl (cst (.int 2))))))))) pN)))))) sSkip))
  (sRet (mz (op2M addG (vo (mz (op2M addG (vo (mz (slM (pk 0) pN (pS (pk 2))))) (vo (mz (pl (dsp .tup (xCons (mz (op2M ixG (pk 0) (vo (mz (op2M addG (pk 2) (vo (mz (pl (cst (.int 1)))))))))) (xCons (mz (op2M ixG (pk 0) (pk 2))) (xCons (mz (op2M ixG (pk 0) (vo (mz (op2M addG (pk 2) (vo (mz (pl (cst (.int 1)))))))))) xNil)))))))))) (vo (mz (slM (pk 0) (pS (vo (mz (op2M addG (pk 2) (vo (mz (pl (cst (.int 3))))))))) pN)))))))
def f_moved_word : List D → Out := defSem B_moved_word 3 3 none
theorem c_moved_word : (cp 60).L (ceOf N_moved_word (topS 14) g_8 csN blN none an_moved_word false xc_moved_word al_moved_word erN akN) (defBody (topS 14)) = some B_moved_word := by kernel_rfl
def g_9 : List (Str × FnI) := (s_ "moved_word", ⟨3, none, f_moved_word⟩) :: g_8
theorem sc_moved_word : FnScope N_moved_word [s_ "word", s_ "kind", s_ "k"] (defScope (topS 14)) := ⟨rfl, rfl, rfl, by decide +kernel, rfl, by decide +kernel, by decide +kernel⟩
def W_move_way_1 : Es :=
  sCl [(1, true), (5, false), (7, false), (0, true), (6, false), (10, true), (9, true), (8, false), (2, false)] (sSeq (sSetM 10 (pl (eCall none f_moved_word (aCons (vo (mz (pl (rd 6)))) (aCons (vo (mz (pl (rd 7)))) (aCons (vo (mz (pl (rd 9)))) xNil))))))
  (sCl [(1, true), (5, false), (7, false), (0, true), (6, false), (10, true), (9, true), (8, true), (2, false)] (sIf (tbl (mDIn true 3 (mz (pl (rd 10))))) (sSeq (sDPutS 3 (mz (pl (rd 10))) (mz (pl (rd 6))))
  (sDrop (mz (pl (mApp 4 (mz (pl (rd 10)))))))) sSkip)))
def W_move_way_2 : Es :=
  sCl [(1, true), (5, false), (7, true), (0, true), (6, false), (10, true), (9, true), (8, true), (2, false)] (sPre [(1, true), (5, false), (7, false), (0, true), (6, false), (10, true), (9, true), (8, false), (2, false)] (sFor (itV (mz (pl (rd 8)))) (gNm 9) W_move_way_1))
def T_move_way_1 : Et :=
  (tbl (mDIn true 3 (mz (pl (rd 2)))))
def W_move_way_3 : Es :=
  sCl [(1, true), (5, false), (7, true), (0, true), (6, true), (10, true), (9, true), (8, true), (2, false)] (sSeq (sSetM 6 (op2M ixG (pk 4) (pk 5)))
  (sSeq (sAugA 5 (mz (pl (cst (.int 1)))))
  (sPre [(1, true), (5, false), (7, true), (0, true), (6, false), (10, true), (9, true), (8, true), (2, false)] (sFor (itV (mz (pl (dsp .tup (xCons (mz (pl (dsp .tup (xCons (mz (pl (cst (.str (s_ "far"))))) (xCons (mz (pl (eCall none f_far_moves (aCons (vo (mz (pl (rd 6)))) xNil)))) xNil))))) (xCons (mz (pl (dsp .tup (xCons (mz (pl (cst (.str (s_ "near"))))) (xCons (mz (pl (eCall none f_near_moves (aCons (vo (mz (pl (rd 6)))) xNil)))) xNil))))) xNil)))))) (gTp 2 [(gNm 7), (gNm 8)]) W_move_way_2))))
def T_move_way_2 : Et :=
  (tbl (mz (op2M (blM (cmpB .IsNot)) (vo (mz (pl (mDGet 3 (mz (op2M ixG (pk 11) (vo (mz (op1M negG (vo (mz (pl (cst (.int 1)))))))))))))) (vo (mz (pl (cst .non)))))))
def W_move_way_4 : Es :=
  sCl [(1, true), (5, true), (7, true), (0, true), (6, true), (10, true), (9, true), (8, true), (2, true), (4, true)] (sDrop (mz (pl (mApp 11 (mz (pl (mDGet 3 (mz (op2M ixG (pk 11) (vo (mz (op1M negG (vo (mz (pl (cst (.int 1)))))))))))))))))
def N_move_way : List Str := [s_ "many", s_ "first", s_ "second", s_ "before", s_ "waiting", s_ "k", s_ "now", s_ "kind", s_ "places", s_ "place", s_ "other", s_ "way"]
def an_move_way : List (Nat × List (Nat × Bool)) := [(66, [(1, true), (5, false), (7, true), (0, true), (6, true), (10, true), (9, true), (8, true), (2, false)]), (76, [(1, true), (5, true), (7, true), (0, true), (6, true), (10, true), (9, true), (8, true), (2, true), (4, true)]), (69, [(1, true), (5, false), (7, true), (0, true), (6, false), (10, true), (9, true), (8, true), (2, false)]), (70, [(1, true), (5, false), (7, false), (0, true), (6, false), (10, true), (9, true), (8, false), (2, false)]), (72, [(1, true), (5, false), (7, false), (0, true), (6, false), (10, true), (9, true), (8, true), (2, false)])]
def xc_move_way : List (Str × Nat) := [(s_ "before", 1)]
def al_move_way : List (Str × Str) := []
def B_move_way : Es :=
  (sSeq (sDrop (mz (pl (eCall none f_check_net (aCons (vo (mz (pl (rd 0)))) (aCons (vo (mz (pl (rd 1)))) xNil))))))
  (sSeq (sDrop (mz (pl (eCall none f_check_net (aCons (vo (mz (pl (rd 0)))) (aCons (vo (mz (pl (rd 2)))) xNil))))))
  (sSeq (sDDT 3 (mz (pl (rd 1))) (mz (pl (cst .non))))
  (sSeq (sSetM 4 (nw (dspF (xCons (mz (pl (rd 1))) xNil))))
  (sSeq (sSetM 5 (pl (cst (.int 0))))
  (sSeq (sPre [(1, true), (5, false), (7, true), (0, true), (6, true), (10, true), (9, true), (8, true), (2, false)] (sWh T_move_way_1 W_move_way_3))
  (sSeq (sSetM 11 (nw (dspF (xCons (mz (pl (rd 2))) xNil))))
  (sSeq (sPre [(1, true), (5, true), (7, true), (0, true), (6, true), (10, true), (9, true), (8, true), (2, true), (4, true)] (sWh T_move_way_2 W_move_way_4))
  (sRet (mz (op1M (revG true) (pk 11))))))))))))
def f_move_way : List D → Out := defSem B_move_way 12 3 none
theorem c_move_way : (cp 60).L (ceOf N_move_way (topS 15) g_9 csN blN none an_move_way false xc_move_way al_move_way erN akN) (defBody (topS 15)) = some B_move_way := by kernel_rfl
def g_10 : List (Str × FnI) := (s_ "move_way", ⟨3, none, f_move_way⟩) :: g_9
theorem sc_move_way : FnScope N_move_way [s_ "many", s_ "first", s_ "second"] (defScope (topS 15)) := ⟨rfl, rfl, rfl, by decide +kernel, rfl, by decide +kernel, by decide +kernel⟩
def C_is_move_way_1 : Ef :=
  lcE [4] (itV (mz (pl (rd 3)))) (gNm 4) yes (mz (pl (eCall none f_is_net (aCons (vo (mz (pl (rd 0)))) (aCons (vo (mz (pl (rd 4)))) xNil)))))
def C_is_move_way_2 : Ef :=
  lcE [8] (itV (mz (pl (eCall none f_far_moves (aCons (vo (mz (pl (rd 6)))) xNil))))) (gNm 8) yes (mz (pl (eCall none f_moved_word (aCons (vo (mz (pl (rd 6)))) (aCons (vo (mz (pl (cst (.str (s_ "far")))))) (aCons (vo (mz (pl (rd 8)))) xNil))))))
def C_is_move_way_3 : Ef :=
  lcE [8] (itV (mz (pl (eCall none f_near_moves (aCons (vo (mz (pl (rd 6)))) xNil))))) (gNm 8) yes (mz (pl (eCall none f_moved_word (aCons (vo (mz (pl (rd 6)))) (aCons (vo (mz (pl (cst (.str (s_ "near")))))) (aCons (vo (mz (pl (rd 8)))) xNil))))))
def W_is_move_way_1 : Es :=
  sCl [(1, true), (5, true), (0, true), (6, true), (2, true), (7, true), (3, false)] (sSeq (sSetM 6 (op2M ixG (pk 3) (pk 5)))
  (sSeq (sOwn 7 C_is_move_way_2)
  (sSeq (sAugA 7 (mz (nw C_is_move_way_3)))
  (sCl [(1, true), (5, true), (0, true), (6, true), (2, true), (7, true), (3, false)] (sIf (tbl (mz (op2M (blM (cmpB .NotIn)) (vo (mz (op2M ixG (pk 3) (vo (mz (op2M addG (pk 5) (vo (mz (pl (cst (.int 1))))))))))) (pk 7)))) (sRet (mz (pl (cst (.bl false))))) sSkip)))))
def N_is_move_way : List Str := [s_ "many", s_ "first", s_ "second", s_ "value", s_ "word", s_ "k", s_ "now", s_ "told", s_ "place"]
def an_is_move_way : List (Nat × List (Nat × Bool)) := [(80, [(1, true), (0, false), (2, true), (3, false)]), (82, [(1, true), (0, true), (2, true), (3, false)]), (84, [(1, true), (5, true), (0, true), (6, true), (2, true), (7, true), (3, false)]), (88, [(1, true), (5, true), (0, true), (6, true), (2, true), (7, true), (3, false)])]
def xc_is_move_way : List (Str × Nat) := []
def al_is_move_way : List (Str × Str) := []
def B_is_move_way : Es :=
  (sSeq (sCl [(1, true), (0, false), (2, true), (3, false)] (sIf (tOrE (tNotE (tst (vo (mz (op1M (isaG "list") (pk 3)))))) (tOrE (tbl (mz (op2M (blM (cmpB .Eq)) (pk 3) (vo (mz (nw (dspF xNil))))))) (tOrE (tbl (mz (op2M (blM (cmpB .NotEq)) (vo (mz (op2M ixG (pk 3) (vo (mz (pl (cst (.int 0)))))))) (pk 1)))) (tbl (mz (op2M (blM (cmpB .NotEq)) (vo (mz (op2M ixG (pk 3) (vo (mz (op1M negG (vo (mz (pl (cst (.int 1))))))))))) (pk 2))))))) (sRet (mz (pl (cst (.bl false))))) sSkip))
  (sSeq (sCl [(1, true), (0, true), (2, true), (3, false)] (sIf (tNotE (tst (vo (mz (opNM allG (aCons (vo (mz (nw C_is_move_way_1))) xNil)))))) (sRet (mz (pl (cst (.bl false))))) sSkip))
  (sSeq (sPre [(1, true), (5, true), (0, true), (6, true), (2, true), (7, true), (3, false)] (sFor (itR ints1 (aCons (vo (mz (op2M subG (vo (mz (opNM lenG (aCons (pk 3) xNil)))) (vo (mz (pl (cst (.int 1)))))))) xNil)) (gNm 5) W_is_move_way_1))
  (sRet (mz (pl (cst (.bl true))))))))
def f_is_move_way : List D → Out := defSem B_is_move_way 9 4 none
theorem c_is_move_way : (cp 60).L (ceOf N_is_move_way (topS 16) g_10 csN blN none an_is_move_way false xc_is_move_way al_is_move_way erN akN) (defBody (topS 16)) = some B_is_move_way := by kernel_rfl
def g_11 : List (Str × FnI) := (s_ "is_move_way", ⟨4, none, f_is_move_way⟩) :: g_10
theorem sc_is_move_way : FnScope N_is_move_way [s_ "many", s_ "first", s_ "second", s_ "value"] (defScope (topS 16)) := ⟨rfl, rfl, rfl, by decide +kernel, rfl, by decide +kernel, by decide +kernel⟩
def N__law_next : List Str := [s_ "tape", s_ "many", s_ "rest", s_ "cell"]
def an__law_next : List (Nat × List (Nat × Bool)) := []
def xc__law_next : List (Str × Nat) := []
def al__law_next : List (Str × Str) := []
def B__law_next : Es :=
  (sSeq (sSetM 2 (op2M ixG (pk 0) (vo (mz (pl (cst (.int 2)))))))
  (sSeq (sIf (tbl (mz (op2M (blM (cmpB .Eq)) (pk 2) (vo (mz (pl (cst (.int 0)))))))) (sSeq (sSetM 3 (pl (cst (.int 0))))
  (sSeq (sIf (tbl (mz (op2M (blM (cmpB .Lt)) (vo (mz (op2M ixG (pk 0) (vo (mz (pl (cst (.int 1)))))))) (vo (mz (opNM lenG (aCons (vo (mz (op2M ixG (pk 0) (vo (mz (pl (cst (.int 0)))))))) xNil))))))) (sSeq (sSetM 3 (opNM absG (aCons (vo (mz (opNM intG (aCons (vo (mz (op2M ixG (vo (mz (op2M ixG (pk 0) (vo (mz (pl (cst (.int 0)))))))) (vo (mz (op2M ixG (pk 0) (vo (mz (pl (cst (.int 1))))))))))) xNil)))) xNil)))
  (sAsg (mz (op2M addG (vo (mz (op2M ixG (pk 0) (vo (mz (pl (cst (.int 1)))))))) (vo (mz (pl (cst (.int 1))))))) (gSb 0 (vo (mz (pl (cst (.int 1)))))))) sSkip)
  (sSeq (sSetM 2 (pl (rd 3)))
  (sIf (tbl (mz (op2M (blM (cmpB .Lt)) (pk 3) (vo (mz (op2M powG (vo (mz (pl (cst (.int 10))))) (vo (mz (pl (cst (.int 18))))))))))) (sSeq (sAsg (mz (op2M modG (vo (mz (opNM intG (aCons (vo (mz (op2M addG (vo (mz (op2M addG (vo (mz (op2M mulG (vo (mz (op2M ixG (pk 0) (vo (mz (pl (cst (.int 3)))))))) (vo (mz (pl (cst (.int 69621)))))))) (vo (mz (op2M mulG (pk 3) (vo (mz (pl (cst (.int 40692))))))))))) (vo (mz (pl (cst (.int 17)))))))) xNil)))) (vo (mz (pl (cst (.int 2147483647))))))) (gSb 0 (vo (mz (pl (cst (.int 3)))))))
  (sRet (mz (op2M modG (vo (mz (op2M modG (vo (mz (opNM intG (aCons (vo (mz (op2M mulG (vo (mz (opNM intG (aCons (vo (mz (op2M divG (vo (mz (op2M ixG (pk 0) (vo (mz (pl (cst (.int 3)))))))) (vo (mz (pl (cst (.int 5)))))))) xNil)))) (vo (mz (pl (cst (.int 48271)))))))) xNil)))) (vo (mz (pl (cst (.int 2147483647)))))))) (pk 1))))) sSkip)))) sSkip)
  (sSeq (sAsg (mz (op2M divG (pk 2) (pk 1))) (gSb 0 (vo (mz (pl (cst (.int 2)))))))
  (sRet (mz (op2M modG (vo (mz (opNM intG (aCons (pk 2) xNil)))) (pk 1)))))))
def f__law_next : List D → Out := defSem B__law_next 4 2 (some 0)
theorem c__law_next : (cp 60).L (ceOf N__law_next (topS 18) g_11 csN blN none an__law_next false xc__law_next al__law_next erN akN) (defBody (topS 18)) = some B__law_next := by kernel_rfl
def g_12 : List (Str × FnI) := (s_ "_law_next", ⟨2, (some 0), f__law_next⟩) :: g_11
theorem sc__law_next : FnScope N__law_next [s_ "tape", s_ "many"] (defScope (topS 18)) := ⟨rfl, rfl, rfl, by decide +kernel, rfl, by decide +kernel, by decide +kernel⟩
def C__law_same_1 (self : List D → Out) : Ef :=
  lcE [2] (itR ints1 (aCons (vo (mz (opNM lenG (aCons (pk 1) xNil)))) xNil)) (gNm 2) (tNotE (tst (vo (mz (pl (eCall none self (aCons (vo (mz (op2M ixG (pk 0) (pk 2)))) (aCons (vo (mz (op2M ixG (pk 1) (pk 2)))) xNil)))))))) (mz (pl (cst (.int 1))))
def N__law_same : List Str := [s_ "told", s_ "due", s_ "k"]
def an__law_same : List (Nat × List (Nat × Bool)) := []
def xc__law_same : List (Str × Nat) := []
def al__law_same : List (Str × Str) := []
def B__law_same (self : List D → Out) : Es :=
  (sSeq (sIf (tbl (mz (op2M (blM (cmpB .Is)) (pk 1) (vo (mz (pl (cst .non))))))) (sRet (mz (op2M (blM (cmpB .Is)) (pk 0) (vo (mz (pl (cst .non))))))) sSkip)
  (sSeq (sIf (tst (vo (mz (op1M (isaG "bool") (pk 1))))) (sRet (mz (pl (eAnd (mz (op1M (isaG "bool") (pk 0))) (mz (op2M (blM (cmpB .Eq)) (pk 0) (pk 1))))))) sSkip)
  (sSeq (sIf (tst (vo (mz (op1M (isaG "int") (pk 1))))) (sRet (mz (pl (eAnd (mz (op1M (isaG "int") (pk 0))) (mz (pl (eAnd (mz (pl (eNot (mz (op1M (isaG "bool") (pk 0)))))) (mz (op2M (blM (cmpB .Eq)) (pk 0) (pk 1)))))))))) sSkip)
  (sSeq (sIf (tst (vo (mz (op1M (isaG "str") (pk 1))))) (sRet (mz (pl (eAnd (mz (op1M (isaG "str") (pk 0))) (mz (op2M (blM (cmpB .Eq)) (pk 0) (pk 1))))))) sSkip)
  (sSeq (sIf (tOrE (tAndE (tst (vo (mz (op1M (isaG "list") (pk 1))))) (tNotE (tst (vo (mz (op1M (isaG "list") (pk 0))))))) (tAndE (tst (vo (mz (op1M (isaG "tuple") (pk 1))))) (tNotE (tst (vo (mz (op1M (isaG "tuple") (pk 0)))))))) (sRet (mz (pl (cst (.bl false))))) sSkip)
  (sRet (mz (pl (eAnd (mz (op2M (blM (cmpB .Eq)) (vo (mz (opNM lenG (aCons (pk 0) xNil)))) (vo (mz (opNM lenG (aCons (pk 1) xNil)))))) (mz (op2M (blM (cmpB .Eq)) (vo (mz (nw (C__law_same_1 self)))) (vo (mz (nw (dspF xNil)))))))))))))))
def r__law_same : Nat → List D → Out
  | 0 => fun _ => .bad
  | k + 1 => defSem (B__law_same (r__law_same k)) 3 2 none
def f__law_same : List D → Out := r__law_same 12
theorem c__law_same (self : List D → Out) : (cp 60).L (ceOf N__law_same (topS 19) ((s_ "_law_same", ⟨2, none, self⟩) :: g_12) csN blN none an__law_same false xc__law_same al__law_same erN akN) (defBody (topS 19)) = some (B__law_same self) := by kernel_rfl
def g_13 : List (Str × FnI) := (s_ "_law_same", ⟨2, none, f__law_same⟩) :: g_12
theorem sc__law_same : FnScope N__law_same [s_ "told", s_ "due"] (defScope (topS 19)) := ⟨rfl, rfl, rfl, by decide +kernel, rfl, by decide +kernel, by decide +kernel⟩
def W__law_near_1 : Es :=
  sCl [(2, true), (0, false)] (sCl [(2, true), (0, false)] (sIf (tbl (mz (op2M (blM (cmpB .NotIn)) (vo (mz (op2M subG (vo (mz (op2M ixG (pk 0) (pk 2)))) (vo (mz (op2M ixG (pk 0) (vo (mz (op2M addG (pk 2) (vo (mz (pl (cst (.int 1)))))))))))))) (vo (mz (pl (dsp .tup (xCons (mz (op1M negG (vo (mz (pl (cst (.int 1))))))) (xCons (mz (pl (cst (.int 0)))) (xCons (mz (pl (cst (.int 1)))) xNil)))))))))) (sDrop (mz (pl (mApp 1 (mz (op2M addG (vo (mz (op2M addG (vo (mz (slM (pk 0) pN (pS (pk 2))))) (vo (mz (pl (dsp .tup (xCons (mz (op2M ixG (pk 0) (vo (mz (op2M addG (pk 2) (vo (mz (pl (cst (.int 1)))))))))) (xCons (mz (op2M ixG (pk 0) (pk 2))) xNil))))))))) (vo (mz (slM (pk 0) (pS (vo (mz (op2M addG (pk 2) (vo (mz (pl (cst (.int 2))))))))) pN))))))))) sSkip))
def W__law_near_2 : Es :=
  sCl [(2, true), (0, false)] (sCl [(2, true), (0, false)] (sIf (tAndE (tbl (mz (op2M (blM (cmpB .Eq)) (vo (mz (op2M ixG (pk 0) (pk 2)))) (vo (mz (op2M ixG (pk 0) (vo (mz (op2M addG (pk 2) (vo (mz (pl (cst (.int 2)))))))))))))) (tbl (mz (op2M (blM (cmpB .In)) (vo (mz (op2M subG (vo (mz (op2M ixG (pk 0) (pk 2)))) (vo (mz (op2M ixG (pk 0) (vo (mz (op2M addG (pk 2) (vo (mz (pl (cst (.int 1)))))))))))))) (vo (mz (pl (dsp .tup (xCons (mz (op1M negG (vo (mz (pl (cst (.int 1))))))) (xCons (mz (pl (cst (.int 1)))) xNil)))))))))) (sDrop (mz (pl (mApp 1 (mz (op2M addG (vo (mz (op2M addG (vo (mz (slM (pk 0) pN (pS (pk 2))))) (vo (mz (pl (dsp .tup (xCons (mz (op2M ixG (pk 0) (vo (mz (op2M addG (pk 2) (vo (mz (pl (cst (.int 1)))))))))) (xCons (mz (op2M ixG (pk 0) (pk 2))) (xCons (mz (op2M ixG (pk 0) (vo (mz (op2M addG (pk 2) (vo (mz (pl (cst (.int 1)))))))))) xNil)))))))))) (vo (mz (slM (pk 0) (pS (vo (mz (op2M addG (pk 2) (vo (mz (pl (cst (.int 3))))))))) pN))))))))) sSkip))
def N__law_near : List Str := [s_ "word", s_ "found", s_ "k"]
def an__law_near : List (Nat × List (Nat × Bool)) := [(119, [(2, true), (0, false)]), (122, [(2, true), (0, false)]), (120, [(2, true), (0, false)]), (123, [(2, true), (0, false)])]
def xc__law_near : List (Str × Nat) := []
def al__law_near : List (Str × Str) := []
def B__law_near : Es :=
  (sSeq (sSetM 1 (nw (dspF xNil)))
  (sSeq (sPre [(2, true), (0, false)] (sFor (itR ints1 (aCons (vo (mz (op2M subG (vo (mz (opNM lenG (aCons (pk 0) xNil)))) (vo (mz (pl (cst (.int 1)))))))) xNil)) (gNm 2) W__law_near_1))
  (sSeq (sPre [(2, true), (0, false)] (sFor (itR ints1 (aCons (vo (mz (op2M subG (vo (mz (opNM lenG (aCons (pk 0) xNil)))) (vo (mz (pl (cst (.int 2)))))))) xNil)) (gNm 2) W__law_near_2))
  (sRet (mz (pl (rd 1)))))))
def f__law_near : List D → Out := defSem B__law_near 3 1 none
theorem c__law_near : (cp 60).L (ceOf N__law_near (topS 20) g_13 csN blN none an__law_near false xc__law_near al__law_near erN akN) (defBody (topS 20)) = some B__law_near := by kernel_rfl
def g_14 : List (Str × FnI) := (s_ "_law_near", ⟨1, none, f__law_near⟩) :: g_13
theorem sc__law_near : FnScope N__law_near [s_ "word"] (defScope (topS 20)) := ⟨rfl, rfl, rfl, by decide +kernel, rfl, by decide +kernel, by decide +kernel⟩
def C__law_steps_1 : Ef :=
  lcE [7] (itV (mz (pl (eCall none f__law_near (aCons (vo (mz (pl (rd 6)))) xNil))))) (gNm 7) (tAndE (tbl (mz (op2M (blM (cmpB .NotIn)) (pk 7) (pk 3)))) (tbl (mz (op2M (blM (cmpB .NotIn)) (pk 7) (pk 5))))) (mz (pl (rd 7)))
def W__law_steps_1 : Es :=
  sCl [(0, true), (5, false), (2, false), (3, false), (1, false), (4, false), (6, true)] (sSetM 5 (op2M addG (pk 5) (vo (mz (nw C__law_steps_1)))))
def T__law_steps_1 : Et :=
  (tbl (mz (op2M (blM (cmpB .NotIn)) (pk 1) (pk 2))))
def W__law_steps_2 : Es :=
  sCl [(0, true), (5, true), (2, false), (3, false), (1, false), (4, false), (6, true)] (sSeq (sSetM 5 (nw (dspF xNil)))
  (sSeq (sPre [(0, true), (5, false), (2, false), (3, false), (1, false), (4, false), (6, true)] (sFor (itV (mz (pl (rd 2)))) (gNm 6) W__law_steps_1))
  (sPar [2, 3, 4] [(pl (rd 5)), (op2M addG (pk 3) (pk 5)), (op2M addG (pk 4) (vo (mz (pl (cst (.int 1))))))])))
def N__law_steps : List Str := [s_ "first", s_ "second", s_ "level", s_ "met", s_ "steps", s_ "later", s_ "word", s_ "other"]
def an__law_steps : List (Nat × List (Nat × Bool)) := [(128, [(0, true), (5, true), (2, false), (3, false), (1, false), (4, false), (6, true)]), (130, [(0, true), (5, false), (2, false), (3, false), (1, false), (4, false), (6, true)])]
def xc__law_steps : List (Str × Nat) := []
def al__law_steps : List (Str × Str) := []
def B__law_steps : Es :=
  (sSeq (sPar [2, 3, 4] [(nw (dspF (xCons (mz (pl (rd 0))) xNil))), (nw (dspF (xCons (mz (pl (rd 0))) xNil))), (pl (cst (.int 0)))])
  (sSeq (sPre [(0, true), (5, true), (2, false), (3, false), (1, false), (4, false), (6, true)] (sWh T__law_steps_1 W__law_steps_2))
  (sRet (mz (pl (rd 4))))))
def f__law_steps : List D → Out := defSem B__law_steps 8 2 none
theorem c__law_steps : (cp 60).L (ceOf N__law_steps (topS 21) g_14 csN blN none an__law_steps false xc__law_steps al__law_steps erN akN) (defBody (topS 21)) = some B__law_steps := by kernel_rfl
def g_15 : List (Str × FnI) := (s_ "_law_steps", ⟨2, none, f__law_steps⟩) :: g_14
theorem sc__law_steps : FnScope N__law_steps [s_ "first", s_ "second"] (defScope (topS 21)) := ⟨rfl, rfl, rfl, by decide +kernel, rfl, by decide +kernel, by decide +kernel⟩
def C_law_1 : Ef :=
  lcE [7] (itR ints1 (aCons (vo (mz (op2M subG (vo (mz (opNM lenG (aCons (pk 6) xNil)))) (vo (mz (pl (cst (.int 1)))))))) xNil)) (gNm 7) (tbl (mz (op2M (blM (cmpB .NotIn)) (vo (mz (op2M ixG (pk 6) (vo (mz (op2M addG (pk 7) (vo (mz (pl (cst (.int 1))))))))))) (vo (mz (pl (eCall none f__law_near (aCons (vo (mz (op2M ixG (pk 6) (pk 7)))) xNil)))))))) (mz (pl (rd 7)))
def C_law_2 : Ef :=
  lcE [10] (itV (mz (pl (rd 6)))) (gNm 10) yes (mz (opNM listG (aCons (pk 10) xNil)))
def C_law_3 : Ef :=
  lcE [10] (itV (mz (pl (rd 11)))) (gNm 10) (tbl (mz (op2M (blM (cmpB .NotIn)) (pk 10) (pk 3)))) (mz (pl (rd 10)))
def C_law_4 : Ef :=
  lcE [7] (itR ints1 (aCons (vo (mz (op2M subG (vo (mz (opNM lenG (aCons (pk 11) xNil)))) (vo (mz (pl (cst (.int 1)))))))) xNil)) (gNm 7) (tbl (mz (op2M (blM (cmpB .NotIn)) (vo (mz (op2M ixG (pk 11) (vo (mz (op2M addG (pk 7) (vo (mz (pl (cst (.int 1))))))))))) (vo (mz (pl (eCall none f__law_near (aCons (vo (mz (op2M ixG (pk 11) (pk 7)))) xNil)))))))) (mz (pl (rd 7)))
def W_law_1 : Es :=
  sCl [(8, true), (4, false), (2, false), (3, false), (9, false), (12, true), (5, false), (1, true), (11, true), (6, false)] (sSeq (sSetM 12 (pl (eAnd (mz (op1M (isaG "list") (pk 11))) (mz (pl (eAnd (mz (op2M (blM (cmpB .NotEq)) (pk 11) (vo (mz (nw (dspF xNil)))))) (mz (pl (eAnd (mz (op2M (blM (cmpB .Eq)) (vo (mz (op2M ixG (pk 11) (vo (mz (pl (cst (.int 0)))))))) (pk 4))) (mz (op2M (blM (cmpB .Eq)) (vo (mz (op2M ixG (pk 11) (vo (mz (op1M negG (vo (mz (pl (cst (.int 1))))))))))) (pk 5))))))))))))
  (sSeq (sSetM 12 (pl (eAnd (mz (pl (rd 12))) (mz (pl (eAnd (mz (op2M (blM (cmpB .Eq)) (vo (mz (nw C_law_3))) (vo (mz (nw (dspF xNil)))))) (mz (op2M (blM (cmpB .Eq)) (vo (mz (nw C_law_4))) (vo (mz (nw (dspF xNil))))))))))))
  (sCl [(8, true), (4, false), (2, false), (3, false), (9, true), (12, true), (5, false), (1, true), (11, true), (6, false)] (sIf (tNotE (tst (vo (mz (pl (eCall none f__law_same (aCons (vo (mz (pl (eCall none f_is_move_way (aCons (vo (mz (pl (rd 2)))) (aCons (vo (mz (pl (rd 4)))) (aCons (vo (mz (pl (rd 5)))) (aCons (vo (mz (pl (rd 11)))) xNil)))))))) (aCons (vo (mz (pl (rd 12)))) xNil)))))))) (sRet (mz (pl (cst (.bl false))))) sSkip))))
def C_law_5 : Ex :=
  eAsk erN ak__law_asked [(14, false), (2, false), (5, false)] (mz (pl (eCall none f_move_way (aCons (vo (mz (pl (rd 2)))) (aCons (vo (mz (pl (rd 14)))) (aCons (vo (mz (pl (rd 5)))) xNil))))))
def C_law_6 : Ex :=
  eAsk erN ak__law_asked [(4, false), (2, false)] (mz (pl (eCall none f_move_way (aCons (vo (mz (pl (rd 2)))) (aCons (vo (mz (pl (rd 4)))) (aCons (vo (mz (slM (pk 4) pN (pS (vo (mz (op1M negG (vo (mz (pl (cst (.int 1)))))))))))) xNil))))))
def N_law : List Str := [s_ "script", s_ "tape", s_ "many", s_ "nets", s_ "first", s_ "second", s_ "way", s_ "k", s_ "at", s_ "odd", s_ "word", s_ "value", s_ "right", s_ "back", s_ "bad", s_ "told", s_ "due"]
def an_law : List (Nat × List (Nat × Bool)) := [(147, [(4, false), (2, false), (3, false), (5, false), (6, false)]), (149, [(4, false), (2, false), (3, false), (5, false), (6, false)]), (154, [(8, true), (4, false), (2, false), (3, false), (9, false), (12, true), (5, false), (1, true), (11, true), (6, false)]), (157, [(8, true), (4, false), (2, false), (3, false), (9, true), (12, true), (5, false), (1, true), (11, true), (6, false)]), (1000162, [(14, false), (2, false), (5, false)]), (1000163, [(4, false), (2, false)])]
def xc_law : List (Str × Nat) := []
def al_law : List (Str × Str) := []
def B_law : Es :=
  (sSeq (sSetM 1 (nw (dspF (xCons (mz (lsSc 0)) (xCons (mz (pl (cst (.int 0)))) (xCons (mz (pl (cst (.int 0)))) (xCons (mz (pl (cst (.int 78)))) xNil)))))))
  (sSeq (sSetM 2 (op2M addG (vo (mz (pl (cst (.int 2))))) (vo (mz (pl (eCall (some 0) f__law_next (aCons (pk 1) (aCons (vo (mz (pl (cst (.int 3))))) xNil))))))))
  (sSeq (sSetM 3 (pl (eCall none f_all_nets (aCons (vo (mz (pl (rd 2)))) (aCons (vo (mz (pl (cst (.int 99))))) xNil)))))
  (sSeq (sPar [4, 5] [(op2M ixG (pk 3) (vo (mz (pl (eCall (some 0) f__law_next (aCons (pk 1) (aCons (vo (mz (opNM lenG (aCons (pk 3) xNil)))) xNil))))))), (op2M ixG (pk 3) (vo (mz (pl (eCall (some 0) f__law_next (aCons (pk 1) (aCons (vo (mz (opNM lenG (aCons (pk 3) xNil)))) xNil)))))))])
  (sSeq (sSetM 6 (pl (eCall none f_move_way (aCons (vo (mz (pl (rd 2)))) (aCons (vo (mz (pl (rd 4)))) (aCons (vo (mz (pl (rd 5)))) xNil))))))
  (sSeq (sCl [(4, false), (2, false), (3, false), (5, false), (6, false)] (sIf (tOrE (tbl (mz (op2M (blM (cmpB .NotEq)) (vo (mz (op2M ixG (pk 6) (vo (mz (pl (cst (.int 0)))))))) (pk 4)))) (tOrE (tbl (mz (op2M (blM (cmpB .NotEq)) (vo (mz (op2M ixG (pk 6) (vo (mz (op1M negG (vo (mz (pl (cst (.int 1))))))))))) (pk 5)))) (tbl (mz (op2M (blM (cmpB .NotEq)) (vo (mz (opNM lenG (aCons (pk 6) xNil)))) (vo (mz (op2M addG (vo (mz (pl (cst (.int 1))))) (vo (mz (pl (eCall none f__law_steps (aCons (vo (mz (pl (rd 4)))) (aCons (vo (mz (pl (rd 5)))) xNil)))))))))))))) (sRet (mz (pl (cst (.bl false))))) sSkip))
  (sSeq (sCl [(4, false), (2, false), (3, false), (5, false), (6, false)] (sIf (tOrE (tbl (mz (op2M (blM (cmpB .NotEq)) (vo (mz (nw C_law_1))) (vo (mz (nw (dspF xNil))))))) (tbl (mz (op2M (blM (cmpB .IsNot)) (vo (mz (pl (eCall none f_is_move_way (aCons (vo (mz (pl (rd 2)))) (aCons (vo (mz (pl (rd 4)))) (aCons (vo (mz (pl (rd 5)))) (aCons (vo (mz (pl (rd 6)))) xNil)))))))) (vo (mz (pl (cst (.bl true))))))))) (sRet (mz (pl (cst (.bl false))))) sSkip))
  (sSeq (sSetM 8 (pl (eCall (some 0) f__law_next (aCons (pk 1) (aCons (vo (mz (opNM lenG (aCons (pk 6) xNil)))) xNil)))))
  (sSeq (sSetM 9 (nw (dspF (xCons (mz (pl (rd 6))) (xCons (mz (op2M addG (vo (mz (slM (pk 6) pN (pS (pk 8))))) (vo (mz (slM (pk 6) (pS (vo (mz (op2M addG (pk 8) (vo (mz (pl (cst (.int 1))))))))) pN))))) (xCons (mz (op2M addG (pk 6) (vo (mz (slM (pk 6) (pS (vo (mz (op1M negG (vo (mz (pl (cst (.int 1))))))))) pN))))) (xCons (mz (op2M addG (vo (mz (op2M addG (vo (mz (slM (pk 6) pN (pS (pk 8))))) (vo (mz (nw (dspF (xCons (mz (op2M ixG (pk 3) (vo (mz (pl (eCall (some 0) f__law_next (aCons (pk 1) (aCons (vo (mz (opNM lenG (aCons (pk 3) xNil)))) xNil)))))))) xNil)))))))) (vo (mz (slM (pk 6) (pS (pk 8)) pN))))) (xCons (mz (opNM tupG (aCons (pk 6) xNil))) (xCons (mz (nw (dspF xNil))) (xCons (mz (pl (cst .non))) xNil))))))))))
  (sSeq (sSetM 9 (op2M addG (pk 9) (vo (mz (nw (dspF (xCons (mz (op2M addG (vo (mz (op2M addG (vo (mz (slM (pk 6) pN (pS (pk 8))))) (vo (mz (nw (dspF (xCons (mz (pl (cst .non))) xNil)))))))) (vo (mz (slM (pk 6) (pS (pk 8)) pN))))) (xCons (mz (op1M (revG true) (pk 6))) (xCons (mz (nw C_law_2)) xNil)))))))))
  (sSeq (sPre [(8, true), (4, false), (2, false), (3, false), (9, false), (12, true), (5, false), (1, true), (11, true), (6, false)] (sFor (itV (mz (pl (rd 9)))) (gNm 11) W_law_1))
  (sSeq (sSetM 13 (pl (eCall none f_move_way (aCons (vo (mz (pl (rd 2)))) (aCons (vo (mz (pl (rd 5)))) (aCons (vo (mz (pl (rd 4)))) xNil))))))
  (sSeq (sSetM 14 (op2M addG (vo (mz (slM (pk 4) (pS (vo (mz (pl (cst (.int 1)))))) pN))) (vo (mz (pl (dsp .tup (xCons (mz (pl (cst (.int 0)))) xNil)))))))
  (sSeq (sSetM 15 (nw (dspF (xCons (mz (op2M ixG (vo (mz (pl C_law_5))) (vo (mz (pl (cst (.int 0))))))) (xCons (mz (pl C_law_6)) xNil)))))
  (sSeq (sSetM 16 (nw (dspF (xCons (mz (eIfM (tst (vo (mz (pl (eCall none f_is_net (aCons (vo (mz (pl (rd 2)))) (aCons (vo (mz (pl (rd 14)))) xNil))))))) (pl (cst (.str (s_ "told")))) (pl (cst (.str (s_ "refused")))))) (xCons (mz (pl (dsp .tup (xCons (mz (pl (cst (.str (s_ "refused"))))) (xCons (mz (slM (pk 4) pN (pS (vo (mz (op1M negG (vo (mz (pl (cst (.int 1))))))))))) xNil))))) xNil)))))
  (sRet (mz (pl (eAnd (mz (op2M (blM (cmpB .Eq)) (vo (mz (opNM lenG (aCons (pk 13) xNil)))) (vo (mz (opNM lenG (aCons (pk 6) xNil)))))) (mz (pl (eCall none f__law_same (aCons (vo (mz (pl (rd 15)))) (aCons (vo (mz (pl (rd 16)))) xNil))))))))))))))))))))))))
theorem c_law : (cp 60).L (ceOf N_law (topS 23) g_15 csN blN (some (s_ "script")) an_law true xc_law al_law erN akN) (defBody (topS 23)) = some B_law := by kernel_rfl
theorem sc_law : FnScope N_law [s_ "script"] (defScope (topS 23)) := ⟨rfl, rfl, rfl, by decide +kernel, rfl, by decide +kernel, by decide +kernel⟩
end MP

namespace MP
open PySem PySem.Spec PyProof.Rows L2
open PySem.W (Datum DatumOrd Tup)
open Cd (en)
abbrev P2 := Int × Int
theorem en_mk (a b : Int) : (.tup [.int a, .int b] : D) = en ((a, b) : P2) := rfl
theorem en2 (p : P2) : (en p : D) = .tup [.int p.1, .int p.2] := rfl
def okD : Nat → D → Bool
  | 0, _ => false
  | n + 1, .lst xs => decide (xs.length ≤ 1000000) && xs.all (okD n)
  | n + 1, .tup xs => decide (xs.length ≤ 1000000) && xs.all (okD n)
  | _ + 1, _ => true
theorem ixG_get {xs : List D} {k : Nat} (h : k < xs.length) : ixG (.lst xs) (.int (k : Int)) = some (.inl xs[k]) := by
  show (atI xs (k : Int)).map _ = _
  rw [atI_nat (j := k) (List.getElem?_eq_getElem h)]; rfl
theorem ixG_get' {xs : List D} {k : Nat} (h : k < xs.length) : ixG (.tup xs) (.int (k : Int)) = some (.inl xs[k]) := by
  show (atI xs (k : Int)).map _ = _
  rw [atI_nat (j := k) (List.getElem?_eq_getElem h)]; rfl
theorem ints1_len {n : Nat} (h : n ≤ 1000000) : ints1 [.int (n : Int)] = some ((List.range n).map fun i => D.int ((i : Nat) : Int)) := by
  show (if rgOk 0 (n : Int) = true then some (rng 0 (n : Int)) else none) = _
  rw [if_pos (rgOk_iff.mpr (by omega)), rng0]
theorem same_in {self : List D → Out} {a : D} {xs : List D} (ha : a = .lst xs ∨ a = .tup xs) (hl : xs.length ≤ 1000000) (hs : ∀ x ∈ xs, self [x, x] = .ret (.bl true) none) :
    C__law_same_1 self [.va a, .va a, .no] = .ok ([], [.va a, .va a, .no]) := by
  have h1 : lenG [a] = some (.inl (.int xs.length)) := by rcases ha with e | e <;> subst e <;> rfl
  have h2 : ∀ k, (h : k < xs.length) → ixG a (.int (k : Int)) = some (.inl xs[k]) := fun k h => by
    rcases ha with e | e <;> subst e
    · exact ixG_get h
    · exact ixG_get' h
  have := lcE_map (T := [2]) (it := itR ints1 (aCons (vo (mz (opNM lenG (aCons (pk 1) xNil)))) xNil)) (g := gNm 2) (tt := tNotE (tst (vo (mz (pl (eCall none self (aCons (vo (mz (op2M ixG (pk 0) (pk 2)))) (aCons (vo (mz (op2M ixG (pk 1) (pk 2)))) xNil))))))))
    (elt := mz (pl (cst (.int 1)))) (ρ := [.va a, .va a, .no]) (ρ1 := [.va a, .va a, .no]) (c := fun i : Nat => D.int (i : Int)) (h := fun _ => .int 1) (P := fun _ => false) (List.range xs.length) (by simp [h1, ints1_len hl]) rfl (fun k hk => by
      have hk := List.mem_range.mp hk
      refine ⟨[.va a, .va a, .va (.int k)], [.va a, .va a, .va (.int k)], by simp [wipeS], ?_, (fun z => by cases z), fun _ => rfl⟩
      simp [h2 k hk, hs _ (List.getElem_mem hk)])
  rw [show (List.range xs.length).filter (fun _ => false) = [] by simp] at this
  exact this
theorem same_refl : ∀ (n : Nat) (a : D), okD n a = true → r__law_same n [a, a] = .ret (.bl true) none
  | n + 1, a, h => by
    refine def_ret rfl ?_
    show ∃ ρ, B__law_same (r__law_same n) [.va a, .va a, .no] = .ret _ ρ
    have seq : ∀ (xs : List D), (a = .lst xs ∨ a = .tup xs) → ∃ ρ, B__law_same (r__law_same n) [.va a, .va a, .no] = .ret (.bl true) ρ := fun xs ha => by
      have hx : (decide (xs.length ≤ 1000000) && xs.all (okD n)) = true := by rcases ha with e | e <;> subst e <;> exact h
      simp only [Bool.and_eq_true, decide_eq_true_eq, List.all_eq_true] at hx
      have e1 := same_in ha hx.1 fun x hm => same_refl n x (hx.2 x hm)
      have nil : cmpB .Eq (.lst []) (.lst []) = some true := rfl
      unfold B__law_same
      rcases ha with e | e <;> subst e <;> simp [isaG, tyN, isaB, isNon, e1, nil]
    cases a with
    | non => unfold B__law_same; simp [isaG, tyN, isaB, isNon]
    | bl b => unfold B__law_same; simp [isaG, tyN, isaB, isNon]
    | int i => unfold B__law_same; simp [isaG, tyN, isaB, isNon]
    | str x =>
      have nil : cmpB .Eq (.str x) (.str x) = some true := by simp [cmpB, eqG, eqv, toPy, PyData.eqv, shp, dep]
      unfold B__law_same; simp [isaG, tyN, isaB, isNon, nil]
    | tup xs => exact seq xs (.inr rfl)
    | lst xs => exact seq xs (.inl rfl)
theorem law_same_eq {a : D} (h : okD 12 a = true) : f__law_same [a, a] = .ret (.bl true) none := same_refl 12 a h
theorem law_next_eq {t : D} (ht : TapeOk t) {many : Int} (h0 : 0 < many) (h1 : many < 1073741824) : ∃ (r : Int) (t' : D), f__law_next [t, .int many] = .ret (.int r) (some t') ∧ TapeOk t' ∧ 0 ≤ r ∧ r < many := by
  obtain ⟨ns, pos, rest, seed, rfl, hp, hr⟩ := ht
  have hm0 : many ≠ 0 := by omega
  have hmn : many.natAbs < 1073741824 := by omega
  have md : ∀ i : Int, 0 ≤ i.fmod many ∧ i.fmod many < many := fun i => ⟨Int.fmod_nonneg_of_pos i h0, Int.fmod_lt_of_pos i h0⟩
  have key : ∀ {i p r s : Int} {ρ : Store}, B__law_next [.bo (tapeD ns pos rest seed), .va (.int many), .no, .no] = .ret (.int (i.fmod many)) (.bo (tapeD ns p r s) :: ρ) → 0 ≤ p → 0 ≤ r → ∃ (r : Int) (t' : D), f__law_next [tapeD ns pos rest seed, .int many] = .ret (.int r) (some t') ∧ TapeOk t' ∧ 0 ≤ r ∧ r < many :=
    fun {i p r s ρ} e hp hr => ⟨i.fmod many, tapeD ns p r s, def_io rfl ⟨_, e, rfl⟩, ⟨_, _, _, _, rfl, hp, hr⟩, (md i).1, (md i).2⟩
  have dv : ∀ i : Int, 0 ≤ i → 0 ≤ i.fdiv many := fun i hi => Int.fdiv_nonneg hi (by omega)
  have e : B__law_next [.bo (tapeD ns pos rest seed), .va (.int many), .no, .no] = B__law_next [.bo (tapeD ns pos rest seed), .va (.int many), .no, .no] := rfl
  by_cases hz : rest = 0
  · subst hz
    by_cases hq : pos < (ns.length : Int)
    · obtain ⟨k, rfl⟩ : ∃ k : Nat, pos = (k : Int) := ⟨pos.toNat, by omega⟩
      have hk : k < ns.length := by omega
      have ix := d_ixL (xs := ns.map D.int) (k := k) (d := .int ns[k]) (by rw [List.getElem?_map, List.getElem?_eq_getElem hk]; rfl)
      have hq' : k < ns.length := hk
      obtain ⟨cell, hce⟩ : ∃ c, c = (if ns[k] < 0 then -ns[k] else ns[k]) := ⟨_, rfl⟩
      have hcn : 0 ≤ cell := by rw [hce]; split <;> omega
      by_cases hc : cell < 1000000000000000000
      · conv at e => rhs; unfold B__law_next tapeD; simp [ix, hq', ← hce, hc, d_mul, mulOk_r, d_mod, d_div, hm0, hmn]
        exact key e (by omega) (by omega)
      · conv at e => rhs; unfold B__law_next tapeD; simp [ix, hq', ← hce, hc, d_mul, mulOk_r, d_mod, d_div, hm0, hmn]
        exact key e (by omega) (dv _ hcn)
    · conv at e => rhs; unfold B__law_next tapeD; simp [hq, d_mul, mulOk_r, d_mod, d_div, hm0, hmn]
      exact key e (by omega) (by omega)
  · conv at e => rhs; unfold B__law_next tapeD; simp [hz, d_mul, mulOk_r, d_mod, d_div, hm0, hmn]
    exact key e (by omega) (dv _ hr)
end MP

namespace MP
open PySem PySem.Spec PyProof.Rows L2
open PySem.W (Datum DatumOrd Tup)
open Cd (en)

/-! ### words -/
abbrev Wd := List Nat
def nl (l : List Nat) : List D := l.map fun k => D.int ((k : Nat) : Int)
def wd (w : Wd) : D := .tup (nl w)
def swp (l : List Nat) (k : Nat) : List Nat := (l.set k (l[k + 1]?.getD 0)).set (k + 1) (l[k]?.getD 0)
def behind (n : Nat) (w : Wd) : List Nat := w.foldl swp (List.range n)
theorem nl_len (l : List Nat) : (nl l).length = l.length := by unfold nl; simp
theorem nl_get {l : List Nat} {k : Nat} (h : k < l.length) : (nl l)[k]? = some (.int ((l[k]?.getD 0 : Nat) : Int)) := by
  unfold nl
  rw [List.getElem?_map, List.getElem?_eq_getElem h]; rfl
theorem nl_set (l : List Nat) (k v : Nat) : (nl l).set k (.int ((v : Nat) : Int)) = nl (l.set k v) := by
  unfold nl; rw [List.map_set]
theorem setAt_nat {ρ : Store} {i k : Nat} {ds : List D} {d : D} (h : ρ[i]? = some (.ow (.lst ds))) (hk : k < ds.length) : setAt ρ i ((k : Nat) : Int) d = .ok (ρ.set i (.ow (.lst (ds.set k d)))) := by
  unfold setAt
  rw [h]
  show (ofO (ixN ds.length ((k : Nat) : Int))).bind _ = _
  have e : ixN ds.length ((k : Nat) : Int) = some k := by
    unfold ixN
    simp [hk]
  rw [e]; rfl
theorem ob_step {x0 : Sl} {w : D} {l : List Nat} {k : Nat} (hk : k + 1 < l.length) : W_order_behind_1 [x0, .va w, .ow (.lst (nl l)), .va (.int ((k : Nat) : Int))] = .next [.no, .va w, .ow (.lst (nl (swp l k))), .no] := by
  have e1 := d_ixL (nl_get (l := l) (k := k) (by omega))
  have e2 : ixG (.lst (nl l)) (.int ((k : Int) + 1)) = some (.inl (.int ((l[k + 1]?.getD 0 : Nat) : Int))) := d_ixL (nl_get (l := l) (k := k + 1) hk)
  have e3 : ∀ d, setAt [x0, .va w, .ow (.lst (nl l)), .va (.int ((k : Nat) : Int))] 2 ((k : Nat) : Int) d = .ok [x0, .va w, .ow (.lst ((nl l).set k d)), .va (.int ((k : Nat) : Int))] := fun d => setAt_nat rfl (by rw [nl_len]; omega)
  have e4 : ∀ d (v : Nat), setAt [x0, .va w, .ow (.lst (nl (l.set k v))), .va (.int ((k : Nat) : Int))] 2 ((k : Int) + 1) d = .ok [x0, .va w, .ow (.lst ((nl (l.set k v)).set (k + 1) d)), .va (.int ((k : Nat) : Int))] := fun d v => setAt_nat (k := k + 1) rfl (by rw [nl_len, List.length_set]; omega)
  unfold W_order_behind_1
  simp [e1, e2, e3, gAll, gSb, e4, nl_set, swp]
/-- the loop -/
theorem swp_len (l : List Nat) (k : Nat) : (swp l k).length = l.length := by unfold swp; simp
theorem ob_loop {w : D} : ∀ (r : Wd) (l : List Nat) (x0 : Sl), (∀ k ∈ r, k + 1 < l.length) → ∃ x1, forL (gNm 3) W_order_behind_1 (nl r) [x0, .va w, .ow (.lst (nl l)), .no] = .next [x1, .va w, .ow (.lst (nl (r.foldl swp l))), .no]
  | [], l, x0, _ => ⟨x0, rfl⟩
  | k :: r, l, x0, h => by
    obtain ⟨x1, e⟩ := ob_loop r (swp l k) .no fun j hj => by rw [swp_len]; exact h j (List.mem_cons_of_mem _ hj)
    refine ⟨x1, ?_⟩
    show (gNm 3 (.int ((k : Nat) : Int)) [x0, .va w, .ow (.lst (nl l)), .no]).thenS _ = _
    have e1 : gNm 3 (.int ((k : Nat) : Int)) [x0, .va w, .ow (.lst (nl l)), .no] = .ok [x0, .va w, .ow (.lst (nl l)), .va (.int ((k : Nat) : Int))] := rfl
    rw [e1, R.thenS_ok, ob_step (h k List.mem_cons_self)]
    exact e
theorem rng_nl (n : Nat) : ((List.range n).map fun i => D.int ((i : Nat) : Int)) = nl (List.range n) := rfl
theorem order_behind_eq {n : Nat} {w : Wd} (hn : n ≤ 1000) (h : ∀ k ∈ w, k + 1 < n) : f_order_behind [.int ((n : Nat) : Int), wd w] = .ret (wd (behind n w)) none := by
  refine def_ret rfl ?_
  show ∃ ρ, B_order_behind [.va (.int ((n : Nat) : Int)), .va (wd w), .no, .no] = .ret _ ρ
  obtain ⟨x1, e⟩ := ob_loop (w := wd w) w (List.range n) .no (fun k hk => by rw [List.length_range]; exact h k hk)
  have e1 := rng_lit n (by omega)
  unfold B_order_behind wd at *
  simp [e1, rng_nl, e]
  rfl
/-- a comprehension of one name over an empty slot -/
theorem lcV {α : Type} {i : Nat} {it : Ei} {tt : Et} {elt : Ex} {ρ ρ' : Store} {c h : α → D} {P : α → Bool} (xs : List α) (hi : it ρ' = .ok (xs.map c, ρ)) (hρ : ρ[i]? = some .no)
    (hx : ∀ x ∈ xs, tt (ρ.set i (.va (c x))) = .ok (P x, ρ.set i (.va (c x))) ∧ (P x = true → elt (ρ.set i (.va (c x))) = .ok (h x, ρ.set i (.va (c x))))) : lcE [i] it (gNm i) tt elt ρ' = .ok ((xs.filter P).map h, ρ) := by
  have hl : i < ρ.length := (List.getElem?_eq_some_iff.mp hρ).1
  have same : ρ.set i .no = ρ := by
    apply List.ext_getElem?
    intro j
    by_cases e : j = i
    · subst e; rw [List.getElem?_set_self hl, hρ]
    · rw [List.getElem?_set_ne (Ne.symm e)]
  refine lcE_map xs hi (by unfold ownOk; simp [hρ, Sl.own]) fun x hm => ⟨ρ.set i (.va (c x)), _, ?_, (hx x hm).1, fun hp => ⟨_, (hx x hm).2 hp, ?_⟩, fun _ => ?_⟩
  · show gNm i (c x) (ρ.set i .no) = _
    rw [same, v_gNm, v_noBo _ _ hρ]; rfl
  · show (ρ.set i (.va (c x))).set i .no = ρ.set i .no
    rw [List.set_set]
  · show (ρ.set i (.va (c x))).set i .no = ρ.set i .no
    rw [List.set_set]
theorem lcVa {α : Type} {i : Nat} {it : Ei} {elt : Ex} {ρ ρ' : Store} {c h : α → D} (xs : List α) (hi : it ρ' = .ok (xs.map c, ρ)) (hρ : ρ[i]? = some .no)
    (hx : ∀ x ∈ xs, elt (ρ.set i (.va (c x))) = .ok (h x, ρ.set i (.va (c x)))) : lcE [i] it (gNm i) yes elt ρ' = .ok (xs.map h, ρ) := by
  have := lcV (P := fun _ => true) (tt := yes) (h := h) xs hi hρ fun x hm => ⟨rfl, fun _ => hx x hm⟩
  rwa [List.filter_eq_self.mpr fun _ _ => rfl] at this
def half (n : Nat) : Nat := n * (n - 1) / 2
theorem half_eq {n : Nat} (h : n ≤ 6) : f_half_square [.int ((n : Nat) : Int)] = .ret (.int ((half n : Nat) : Int)) none := by
  have : n = 0 ∨ n = 1 ∨ n = 2 ∨ n = 3 ∨ n = 4 ∨ n = 5 ∨ n = 6 := by omega
  rcases this with e | e | e | e | e | e | e <;> subst e <;> kernel_rfl
theorem whole_int (i : Int) : f_is_whole [.int i] = .ret (.bl true) none := by
  refine def_ret rfl ?_
  show ∃ ρ, B_is_whole [.va (.int i)] = .ret _ ρ
  unfold B_is_whole
  simp [isaG, tyN, isaB, isNon]
def inR (n : Nat) (w : Wd) : Bool := w.all fun k => decide (k + 1 < n)
def isNet (n : Nat) (w : Wd) : Bool := inR n w && (decide (w.length = half n) && decide (behind n w = (List.range n).reverse))
theorem bools_bl : ∀ bs : List Bool, boolsOf (bs.map D.bl) = some bs
  | [] => rfl
  | b :: bs => by rw [List.map_cons, boolsOf, bools_bl bs]; rfl
theorem allG_bl (bs : List Bool) : allG [.lst (bs.map D.bl)] = some (.inl (.bl (bs.all id))) := by
  show (boolsOf (bs.map D.bl)).map _ = _
  rw [bools_bl]; rfl
def tpI (w : Wd) : Tup Int := ⟨w.map fun k => ((k : Nat) : Int)⟩
theorem wd_en (w : Wd) : wd w = en (tpI w) := by
  show D.tup _ = D.tup _
  rw [show (tpI w).items = w.map fun k => ((k : Nat) : Int) from rfl, List.map_map]; rfl
theorem map_cast : ∀ {a b : List Nat}, (a.map fun k => ((k : Nat) : Int)) = (b.map fun k => ((k : Nat) : Int)) → a = b
  | [], [], _ => rfl
  | [], _ :: _, h => by cases h
  | _ :: _, [], h => by cases h
  | x :: xs, y :: ys, h => by
    rw [List.map_cons, List.map_cons] at h
    obtain ⟨h1, h2⟩ := List.cons.inj h
    rw [map_cast h2, show x = y by omega]
theorem tpI_inj {a b : Wd} : tpI a = tpI b ↔ a = b := by
  refine ⟨fun h => ?_, fun h => by rw [h]⟩
  have h : a.map (fun k => ((k : Nat) : Int)) = b.map fun k => ((k : Nat) : Int) := congrArg (·.items) h
  exact map_cast h
theorem eq_wd (a b : Wd) : cmpB .Eq (wd a) (wd b) = some (decide (a = b)) := by
  rw [wd_en, wd_en]
  exact (eqG_en (by decide) _ _).trans (congrArg some (decide_eq_decide.mpr tpI_inj))
theorem ne_wd (a b : Wd) : cmpB .NotEq (wd a) (wd b) = some (decide (a ≠ b)) := by
  rw [wd_en, wd_en]
  exact (neG_en (by decide) _ _).trans (congrArg some (decide_eq_decide.mpr (not_congr tpI_inj)))
theorem isn_elt {ni i : Int} {ww : D} : (mz (pl (eAnd (mz (pl (eCall none f_is_whole (aCons (vo (mz (pl (rd 2)))) xNil)))) (mz (pl (chnM (cmpB .LtE) (cmpB .Lt) (vo (mz (pl (cst (.int 0))))) (pk 2) (vo (mz (op2M subG (pk 0) (vo (mz (pl (cst (.int 1))))))))))))) : Ex) [.va (.int ni), .va ww, .va (.int i)] =
    .ok (.bl (decide (0 ≤ i) && decide (i < ni - 1)), [.va (.int ni), .va ww, .va (.int i)]) := by
  by_cases h : 0 ≤ i
  · simp [whole_int, h]
  · simp [whole_int, h]
theorem isn_c1 {ni : Int} {w : Wd} : C_is_net_1 [.va (.int ni), .va (wd w), .no] = .ok (w.map fun k => D.bl (decide (0 ≤ ((k : Nat) : Int)) && decide (((k : Nat) : Int) < ni - 1)), [.va (.int ni), .va (wd w), .no]) := by
  unfold C_is_net_1
  refine lcVa (ρ := [.va (.int ni), .va (wd w), .no]) (c := fun k : Nat => D.int (k : Int)) w ?_ rfl fun k hk => isn_elt
  unfold wd nl
  simp
theorem isn_c2 {n : Nat} {w : Wd} : C_is_net_1 [.va (.int ((n : Nat) : Int)), .va (wd w), .no] = .ok ((w.map fun k => decide (k + 1 < n)).map D.bl, [.va (.int ((n : Nat) : Int)), .va (wd w), .no]) := by
  rw [isn_c1, List.map_map]
  refine congrArg (fun z => R.ok (z, _)) (List.map_congr_left fun k _ => congrArg D.bl ?_)
  have h : (((k : Nat) : Int) < ((n : Nat) : Int) - 1) ↔ k + 1 < n := by omega
  have h0 : 0 ≤ ((k : Nat) : Int) := by omega
  rw [decide_eq_true h0, Bool.true_and, decide_eq_decide.mpr h]
theorem isn_rev (l : List Nat) : revG true (.tup (nl l)) = some (.inl (wd l.reverse)) := by
  show some (Sum.inl (D.tup _)) = _
  unfold wd nl; rw [List.map_reverse]; rfl
theorem isn_main {ni li hi : Int} {ww wb wr : D} {bb rr : List D} {ri bd : Bool} (c1 : C_is_net_1 [.va (.int ni), .va ww, .no] = .ok (bb, [.va (.int ni), .va ww, .no])) (e1 : ints1 [.int ni] = some rr) (e2 : f_half_square [.int ni] = .ret (.int hi) none) (e3 : allG [.lst bb] = some (.inl (.bl ri)))
    (e5 : lenG [ww] = some (.inl (.int li))) (e6 : isaG "tuple" ww = some (.inl (.bl true))) (e7 : revG true (.tup rr) = some (.inl wr)) (e8 : ri = true → f_order_behind [.int ni, ww] = .ret wb none) (e9 : cmpB .Eq wb wr = some bd) :
    ∃ ρ, B_is_net [.va (.int ni), .va ww, .no] = .ret (.bl (ri && (decide (li = hi) && bd))) ρ := by
  unfold B_is_net
  cases ri with
  | false => simp [c1, e3, e6]
  | true =>
    have e8 := e8 rfl
    by_cases hl : li = hi
    · subst hl
      simp [c1, e3, e6, e5, e2, e1, e7, e8, e9]
    · simp [c1, e3, e6, e5, e2, hl]
theorem is_net_eq {n : Nat} {w : Wd} (hn : n ≤ 6) : f_is_net [.int ((n : Nat) : Int), wd w] = .ret (.bl (isNet n w)) none := by
  refine def_ret rfl ?_
  have e3 := allG_bl (w.map fun k => decide (k + 1 < n))
  rw [show (w.map fun k => decide (k + 1 < n)).all id = inR n w by unfold inR; rw [List.all_map]; rfl] at e3
  have z : isNet n w = (inR n w && (decide (((w.length : Nat) : Int) = ((half n : Nat) : Int)) && decide (behind n w = (List.range n).reverse))) := by
    unfold isNet
    rw [decide_eq_decide.mpr (show (((w.length : Nat) : Int) = ((half n : Nat) : Int)) ↔ w.length = half n by omega)]
  rw [z]
  exact isn_main isn_c2 (rng_lit n (by omega)) (half_eq hn) e3 (by show some _ = _; rw [nl_len]) rfl (isn_rev (List.range n)) (fun hr => order_behind_eq (n := n) (by omega) (by unfold inR at hr; simpa using hr)) (eq_wd _ _)
end MP

namespace MP
open PySem PySem.Spec PyProof.Rows L2
open PySem.W (Datum DatumOrd Tup)
open Cd (en)

/-! ### all nets of two to four things; their moves -/
def nets2 : List Wd := [[0]]
def nets3 : List Wd := [[0, 1, 0], [1, 0, 1]]
def nets4 : List Wd := [[0, 1, 0, 2, 1, 0], [0, 1, 2, 0, 1, 0], [0, 1, 2, 1, 0, 1], [0, 2, 1, 0, 2, 1], [0, 2, 1, 2, 0, 1], [1, 0, 1, 2, 1, 0], [1, 0, 2, 1, 0, 2], [1, 0, 2, 1, 2, 0], [1, 2, 0, 1, 0, 2], [1, 2, 0, 1, 2, 0], [1, 2, 1, 0, 1, 2], [2, 0, 1, 0, 2, 1], [2, 0, 1, 2, 0, 1], [2, 1, 0, 1, 2, 1], [2, 1, 0, 2, 1, 2], [2, 1, 2, 0, 1, 2]]
def nets : Nat → List Wd
  | 2 => nets2
  | 3 => nets3
  | 4 => nets4
  | _ => []
def allW : List Wd := nets2 ++ (nets3 ++ nets4)
def dist (a b : Nat) : Nat := (a - b) + (b - a)
def farN (w : Wd) : List Nat := (List.range (w.length - 1)).filter fun k => decide (1 < dist (w.getD k 0) (w.getD (k + 1) 0))
def nearN (w : Wd) : List Nat := (List.range (w.length - 2)).filter fun k => decide (w.getD k 0 = w.getD (k + 2) 0) && decide (dist (w.getD k 0) (w.getD (k + 1) 0) = 1)
def mvF (w : Wd) (k : Nat) : Wd := w.take k ++ ([w.getD (k + 1) 0, w.getD k 0] ++ w.drop (k + 2))
def mvN (w : Wd) (k : Nat) : Wd := w.take k ++ ([w.getD (k + 1) 0, w.getD k 0, w.getD (k + 1) 0] ++ w.drop (k + 3))
def nbr (w : Wd) : List Wd := (farN w).map (mvF w) ++ (nearN w).map (mvN w)
def prF : List (Wd × Nat) := [([0, 1, 0, 2, 1, 0], 2), ([0, 1, 2, 0, 1, 0], 2), ([0, 2, 1, 0, 2, 1], 0), ([0, 2, 1, 0, 2, 1], 3), ([0, 2, 1, 2, 0, 1], 0), ([0, 2, 1, 2, 0, 1], 3), ([1, 0, 2, 1, 0, 2], 1), ([1, 0, 2, 1, 0, 2], 4), ([1, 0, 2, 1, 2, 0], 1), ([1, 0, 2, 1, 2, 0], 4), ([1, 2, 0, 1, 0, 2], 1), ([1, 2, 0, 1, 0, 2], 4), ([1, 2, 0, 1, 2, 0], 1), ([1, 2, 0, 1, 2, 0], 4), ([2, 0, 1, 0, 2, 1], 0), ([2, 0, 1, 0, 2, 1], 3), ([2, 0, 1, 2, 0, 1], 0), ([2, 0, 1, 2, 0, 1], 3), ([2, 1, 0, 2, 1, 2], 2), ([2, 1, 2, 0, 1, 2], 2)]
def prN : List (Wd × Nat) := [([0, 1, 0], 0), ([1, 0, 1], 0), ([0, 1, 0, 2, 1, 0], 0), ([0, 1, 2, 0, 1, 0], 3), ([0, 1, 2, 1, 0, 1], 1), ([0, 1, 2, 1, 0, 1], 3), ([0, 2, 1, 2, 0, 1], 1), ([1, 0, 1, 2, 1, 0], 0), ([1, 0, 1, 2, 1, 0], 2), ([1, 0, 2, 1, 2, 0], 2), ([1, 2, 0, 1, 0, 2], 2), ([1, 2, 1, 0, 1, 2], 0), ([1, 2, 1, 0, 1, 2], 2), ([2, 0, 1, 0, 2, 1], 1), ([2, 1, 0, 1, 2, 1], 1), ([2, 1, 0, 1, 2, 1], 3), ([2, 1, 0, 2, 1, 2], 3), ([2, 1, 2, 0, 1, 2], 0)]
theorem prF_is : prF = allW.flatMap fun w => (farN w).map fun k => (w, k) := by decide +kernel
theorem prN_is : prN = allW.flatMap fun w => (nearN w).map fun k => (w, k) := by decide +kernel
theorem far_t_2 : ∀ x ∈ nets2, f_far_moves [wd x] = .ret (.lst (nl (farN x))) none := by
  unfold nets2
  repeat (refine List.forall_mem_cons.mpr ⟨by kernel_rfl, ?_⟩)
  intro x hx; cases hx
theorem far_t_3 : ∀ x ∈ nets3, f_far_moves [wd x] = .ret (.lst (nl (farN x))) none := by
  unfold nets3
  repeat (refine List.forall_mem_cons.mpr ⟨by kernel_rfl, ?_⟩)
  intro x hx; cases hx
theorem far_t_4 : ∀ x ∈ nets4, f_far_moves [wd x] = .ret (.lst (nl (farN x))) none := by
  unfold nets4
  repeat (refine List.forall_mem_cons.mpr ⟨by kernel_rfl, ?_⟩)
  intro x hx; cases hx
theorem far_t : ∀ x ∈ allW, f_far_moves [wd x] = .ret (.lst (nl (farN x))) none := fun x hx => by
  rcases List.mem_append.mp hx with h | h
  · exact far_t_2 x h
  rcases List.mem_append.mp h with h | h
  · exact far_t_3 x h
  · exact far_t_4 x h
theorem near_t_2 : ∀ x ∈ nets2, f_near_moves [wd x] = .ret (.lst (nl (nearN x))) none := by
  unfold nets2
  repeat (refine List.forall_mem_cons.mpr ⟨by kernel_rfl, ?_⟩)
  intro x hx; cases hx
theorem near_t_3 : ∀ x ∈ nets3, f_near_moves [wd x] = .ret (.lst (nl (nearN x))) none := by
  unfold nets3
  repeat (refine List.forall_mem_cons.mpr ⟨by kernel_rfl, ?_⟩)
  intro x hx; cases hx
theorem near_t_4 : ∀ x ∈ nets4, f_near_moves [wd x] = .ret (.lst (nl (nearN x))) none := by
  unfold nets4
  repeat (refine List.forall_mem_cons.mpr ⟨by kernel_rfl, ?_⟩)
  intro x hx; cases hx
theorem near_t : ∀ x ∈ allW, f_near_moves [wd x] = .ret (.lst (nl (nearN x))) none := fun x hx => by
  rcases List.mem_append.mp hx with h | h
  · exact near_t_2 x h
  rcases List.mem_append.mp h with h | h
  · exact near_t_3 x h
  · exact near_t_4 x h
theorem mvF_p : ∀ x ∈ prF, f_moved_word [wd x.1, .str "far", .int ((x.2 : Nat) : Int)] = .ret (wd (mvF x.1 x.2)) none := by
  unfold prF
  repeat (refine List.forall_mem_cons.mpr ⟨by kernel_rfl, ?_⟩)
  intro x hx; cases hx
theorem mvN_p : ∀ x ∈ prN, f_moved_word [wd x.1, .str "near", .int ((x.2 : Nat) : Int)] = .ret (wd (mvN x.1 x.2)) none := by
  unfold prN
  repeat (refine List.forall_mem_cons.mpr ⟨by kernel_rfl, ?_⟩)
  intro x hx; cases hx
theorem mvF_t {w : Wd} (hw : w ∈ allW) {k : Nat} (hk : k ∈ farN w) : f_moved_word [wd w, .str "far", .int ((k : Nat) : Int)] = .ret (wd (mvF w k)) none :=
  mvF_p (w, k) (by rw [prF_is]; exact List.mem_flatMap.mpr ⟨w, hw, List.mem_map.mpr ⟨k, hk, rfl⟩⟩)
theorem mvN_t {w : Wd} (hw : w ∈ allW) {k : Nat} (hk : k ∈ nearN w) : f_moved_word [wd w, .str "near", .int ((k : Nat) : Int)] = .ret (wd (mvN w k)) none :=
  mvN_p (w, k) (by rw [prN_is]; exact List.mem_flatMap.mpr ⟨w, hw, List.mem_map.mpr ⟨k, hk, rfl⟩⟩)
theorem lnear_t_2 : ∀ x ∈ nets2, f__law_near [wd x] = .ret (.lst ((nbr x).map wd)) none := by
  unfold nets2
  repeat (refine List.forall_mem_cons.mpr ⟨by kernel_rfl, ?_⟩)
  intro x hx; cases hx
theorem lnear_t_3 : ∀ x ∈ nets3, f__law_near [wd x] = .ret (.lst ((nbr x).map wd)) none := by
  unfold nets3
  repeat (refine List.forall_mem_cons.mpr ⟨by kernel_rfl, ?_⟩)
  intro x hx; cases hx
theorem lnear_t_4 : ∀ x ∈ nets4, f__law_near [wd x] = .ret (.lst ((nbr x).map wd)) none := by
  unfold nets4
  repeat (refine List.forall_mem_cons.mpr ⟨by kernel_rfl, ?_⟩)
  intro x hx; cases hx
theorem lnear_t : ∀ x ∈ allW, f__law_near [wd x] = .ret (.lst ((nbr x).map wd)) none := fun x hx => by
  rcases List.mem_append.mp hx with h | h
  · exact lnear_t_2 x h
  rcases List.mem_append.mp h with h | h
  · exact lnear_t_3 x h
  · exact lnear_t_4 x h
theorem nets_sub {n : Nat} {w : Wd} (h : w ∈ nets n) : w ∈ allW := by
  unfold nets at h
  unfold allW
  split at h
  · exact List.mem_append_left _ h
  · exact List.mem_append_right _ (List.mem_append_left _ h)
  · exact List.mem_append_right _ (List.mem_append_right _ h)
  · cases h
theorem nbr_in : ∀ n ∈ [2, 3, 4], ∀ w ∈ nets n, ∀ x ∈ nbr w, x ∈ nets n := by decide +kernel
theorem nets_net : ∀ n ∈ [2, 3, 4], ∀ w ∈ nets n, isNet n w = true := by decide +kernel
end MP

namespace MP
open PySem PySem.Spec PyProof.Rows L2
open PySem.W (Datum DatumOrd Tup)
open Cd (en)

/-! ### move_way: one neighbour -/
def addD (nw : D) (s : List (D × D) × List D) (ot : D) : List (D × D) × List D := if (dGet s.1 ot).isSome = true then s else (dPut s.1 ot nw, s.2 ++ [ot])
theorem mw1 {x0 x1 x8 x11 : Sl} {sec nw ot kd : D} {B : List (D × D)} {wt : List D} {k pl : Int} (e : f_moved_word [nw, kd, .int pl] = .ret ot none) (hk : kOk true ot = true) (hB : B.length < 1000000) (hw : wt.length < 1000000) :
    W_move_way_1 [x0, x1, .va sec, .dc B true, .ow (.lst wt), .va (.int k), .va nw, .va kd, x8, .va (.int pl), .no, x11] =
      .next [.no, .no, .va sec, .dc (addD nw (B, wt) ot).1 true, .ow (.lst (addD nw (B, wt) ot).2), .va (.int k), .va nw, .va kd, .no, .no, .no, x11] := by
  have h1 : B.length < 16777216 := by omega
  have h2 : wt.length < 16777216 := by omega
  unfold W_move_way_1 addD
  cases hd : dGet B ot with
  | some v => simp [e, hk, hd, mDIn, dcAt]
  | none => simp [e, hk, hd, mDIn, dcAt, sDPutS, h1, h2]
/-- all places of one kind -/
theorem len_add {nw ot : D} {s : List (D × D) × List D} : (addD nw s ot).1.length ≤ s.1.length + 1 ∧ (addD nw s ot).2.length ≤ s.2.length + 1 := by
  unfold addD dPut
  split
  · exact ⟨by omega, by omega⟩
  · refine ⟨?_, by simp⟩
    dsimp only
    split
    · rw [List.length_map]; omega
    · simp
theorem mw2 {sec nw kd : D} {k : Int} {x11 : Sl} {mv : Nat → D} : ∀ (ps : List Nat) (s : List (D × D) × List D) (x0 x1 x8 : Sl), (∀ p ∈ ps, f_moved_word [nw, kd, .int ((p : Nat) : Int)] = .ret (mv p) none ∧ kOk true (mv p) = true) → s.1.length + ps.length < 1000000 → s.2.length + ps.length < 1000000 →
    ∃ y0 y1 y8, forL (gNm 9) W_move_way_1 (nl ps) [x0, x1, .va sec, .dc s.1 true, .ow (.lst s.2), .va (.int k), .va nw, .va kd, x8, .no, .no, x11] =
      .next [y0, y1, .va sec, .dc ((ps.map mv).foldl (addD nw) s).1 true, .ow (.lst ((ps.map mv).foldl (addD nw) s).2), .va (.int k), .va nw, .va kd, y8, .no, .no, x11]
  | [], s, x0, x1, x8, _, _, _ => ⟨x0, x1, x8, rfl⟩
  | p :: ps, s, x0, x1, x8, h, l1, l2 => by
    rw [List.length_cons] at l1 l2
    obtain ⟨e1, e2⟩ := h p List.mem_cons_self
    have ln := len_add (nw := nw) (ot := mv p) (s := s)
    obtain ⟨y0, y1, y8, e3⟩ := mw2 ps (addD nw s (mv p)) .no .no .no (fun q hq => h q (List.mem_cons_of_mem _ hq)) (by omega) (by omega)
    refine ⟨y0, y1, y8, ?_⟩
    show (gNm 9 (.int ((p : Nat) : Int)) [x0, x1, .va sec, .dc s.1 true, .ow (.lst s.2), .va (.int k), .va nw, .va kd, x8, .no, .no, x11]).thenS _ = _
    have e4 : gNm 9 (.int ((p : Nat) : Int)) [x0, x1, .va sec, .dc s.1 true, .ow (.lst s.2), .va (.int k), .va nw, .va kd, x8, .no, .no, x11] = .ok [x0, x1, .va sec, .dc s.1 true, .ow (.lst s.2), .va (.int k), .va nw, .va kd, x8, .va (.int ((p : Nat) : Int)), .no, x11] := rfl
    rw [e4, R.thenS_ok]
    have e5 := mw1 (x0 := x0) (x1 := x1) (x8 := x8) (x11 := x11) (sec := sec) (B := s.1) (wt := s.2) (k := k) e1 e2 (by omega) (by omega)
    rw [e5]
    exact e3
/-- one kind -/
theorem mw3 {sec nw kd : D} {k : Int} {x0 x1 x11 : Sl} {mv : Nat → D} {ps : List Nat} {s : List (D × D) × List D} (h : ∀ p ∈ ps, f_moved_word [nw, kd, .int ((p : Nat) : Int)] = .ret (mv p) none ∧ kOk true (mv p) = true) (l1 : s.1.length + ps.length < 1000000) (l2 : s.2.length + ps.length < 1000000) :
    W_move_way_2 [x0, x1, .va sec, .dc s.1 true, .ow (.lst s.2), .va (.int k), .va nw, .va kd, .va (.lst (nl ps)), .no, .no, x11] =
      .next [.no, .no, .va sec, .dc ((ps.map mv).foldl (addD nw) s).1 true, .ow (.lst ((ps.map mv).foldl (addD nw) s).2), .va (.int k), .va nw, .no, .no, .no, .no, x11] := by
  obtain ⟨y0, y1, y8, e⟩ := mw2 (sec := sec) (k := k) (x11 := x11) ps s .no .no (.va (.lst (nl ps))) h l1 l2
  unfold W_move_way_2
  revert e
  generalize nl ps = pp
  generalize (ps.map mv).foldl (addD nw) s = s2
  intro e
  simp [e]
end MP

namespace MP
open PySem PySem.Spec PyProof.Rows L2
open PySem.W (Datum DatumOrd Tup)
open Cd (en)

/-! ### move_way: one turn of the search -/
theorem mw4 {sec nw : D} {k : Nat} {x11 : Sl} {mf mn : Nat → D} {fs ns : List Nat} {B : List (D × D)} {wt : List D} {x0 x1 x6 x7 x8 : Sl} (hk : wt[k]? = some nw) (b6 : x6 = .no) (b7 : x7 = .no) (b8 : x8 = .no)
    (f1 : f_far_moves [nw] = .ret (.lst (nl fs)) none) (f2 : f_near_moves [nw] = .ret (.lst (nl ns)) none)
    (h1 : ∀ p ∈ fs, f_moved_word [nw, .str "far", .int ((p : Nat) : Int)] = .ret (mf p) none ∧ kOk true (mf p) = true) (h2 : ∀ p ∈ ns, f_moved_word [nw, .str "near", .int ((p : Nat) : Int)] = .ret (mn p) none ∧ kOk true (mn p) = true)
    (l1 : B.length + fs.length + ns.length < 1000000) (l2 : wt.length + fs.length + ns.length < 1000000) :
    W_move_way_3 [x0, x1, .va sec, .dc B true, .ow (.lst wt), .va (.int ((k : Nat) : Int)), x6, x7, x8, .no, .no, x11] =
      .next [.no, .no, .va sec, .dc ((fs.map mf ++ ns.map mn).foldl (addD nw) (B, wt)).1 true, .ow (.lst ((fs.map mf ++ ns.map mn).foldl (addD nw) (B, wt)).2), .va (.int ((k : Nat) + 1 : Int)), .no, .no, .no, .no, .no, x11] := by
  subst b6 b7 b8
  have ix := d_ixL hk
  have ln : ∀ (l : List D) (s : List (D × D) × List D), (l.foldl (addD nw) s).1.length ≤ s.1.length + l.length ∧ (l.foldl (addD nw) s).2.length ≤ s.2.length + l.length := by
    intro l
    induction l with
    | nil => intro s; exact ⟨by simp, by simp⟩
    | cons a l ih =>
      intro s
      have := ih (addD nw s a)
      have z := len_add (nw := nw) (ot := a) (s := s)
      rw [List.foldl_cons, List.length_cons]
      omega
  have lf := ln (fs.map mf) (B, wt)
  rw [List.length_map] at lf
  have e1 := mw3 (sec := sec) (k := (k : Int) + 1) (x0 := x0) (x1 := x1) (x11 := x11) (s := (B, wt)) h1 (by dsimp only; omega) (by dsimp only; omega)
  have e2 := mw3 (sec := sec) (k := (k : Int) + 1) (x0 := .no) (x1 := .no) (x11 := x11) (s := (fs.map mf).foldl (addD nw) (B, wt)) h2 (by have := lf.1; dsimp only at this; omega) (by have := lf.2; dsimp only at this; omega)
  have e3 := mw3 (sec := sec) (k := (k : Int) + 1) (x0 := .no) (x1 := .no) (x11 := x11) (s := (B, wt)) h1 (by dsimp only; omega) (by dsimp only; omega)
  rw [List.foldl_append]
  revert e1 e2 e3 f1 f2 ix
  generalize (ns.map mn).foldl (addD nw) ((fs.map mf).foldl (addD nw) (B, wt)) = s2
  generalize (fs.map mf).foldl (addD nw) (B, wt) = s1
  generalize nl fs = ff
  generalize nl ns = nn
  generalize ((k : Nat) : Int) = ki
  intro f1 f2 ix e1 e2 e3
  unfold W_move_way_3
  simp [ix, f1, f2, e1, e2, e3, forL, gAll, sAugA, s_]
/-! ### the search by itself -/
abbrev BS := List (Wd × Option Wd) × List Wd × Nat
def lookB (bs : List (Wd × Option Wd)) (w : Wd) : Option (Option Wd) := (bs.find? fun p => decide (p.1 = w)).map (·.2)
def addN (nw : Wd) (s : List (Wd × Option Wd) × List Wd) (ot : Wd) : List (Wd × Option Wd) × List Wd := if (lookB s.1 ot).isSome = true then s else (s.1 ++ [(ot, some nw)], s.2 ++ [ot])
def oD : Option Wd → D
  | none => .non
  | some w => wd w
def encB (bs : List (Wd × Option Wd)) : List (D × D) := bs.map fun p => (wd p.1, oD p.2)
def kyW (w : Wd) : List Key := w.map fun k => (.inl ((k : Nat) : Int) : Key)
theorem kyW_inj : ∀ {a b : Wd}, kyW a = kyW b → a = b
  | [], [], _ => rfl
  | [], _ :: _, h => by cases h
  | _ :: _, [], h => by cases h
  | x :: xs, y :: ys, h => by
    have h1 := (List.cons.inj h).1
    have h2 := (List.cons.inj h).2
    have h1 : ((x : Nat) : Int) = ((y : Nat) : Int) := Sum.inl.inj h1
    rw [kyW_inj h2, show x = y by omega]
theorem kcd_wd (w : Wd) : kcd (wd w) = some (.inr (kyW w)) := by
  have e : wd w = .tup ((kyW w).map keyD) := by unfold wd nl kyW; rw [List.map_map]; rfl
  rw [e, kcd_tup]
theorem kOk_wd (w : Wd) : kOk true (wd w) = true := by unfold kOk; rw [kcd_wd]; rfl
theorem kEq_wd (a b : Wd) : kEq (wd a) (wd b) = decide (a = b) := by
  unfold kEq
  rw [kcd_wd, kcd_wd, decide_eq_decide]
  exact ⟨fun h => kyW_inj (Sum.inr.inj (Option.some.inj h)), fun h => by rw [h]⟩
theorem dGet_enc : ∀ (bs : List (Wd × Option Wd)) (w : Wd), dGet (encB bs) (wd w) = (lookB bs w).map oD
  | [], w => rfl
  | p :: bs, w => by
    have ih := dGet_enc bs w
    unfold dGet encB lookB at *
    rw [List.map_cons, List.find?_cons, List.find?_cons, kEq_wd]
    by_cases h : p.1 = w
    · simp [h]
    · simp only [h, decide_false]
      exact ih
theorem any_enc (bs : List (Wd × Option Wd)) (w : Wd) : ((encB bs).any fun p => kEq p.1 (wd w)) = (lookB bs w).isSome := by
  induction bs with
  | nil => rfl
  | cons p bs ih =>
    unfold encB lookB at *
    rw [List.map_cons, List.any_cons, List.find?_cons, kEq_wd]
    by_cases h : p.1 = w
    · simp [h]
    · simp only [h, decide_false, Bool.false_or]
      exact ih
theorem addD_enc (nw : Wd) (s : List (Wd × Option Wd) × List Wd) (ot : Wd) : addD (wd nw) (encB s.1, s.2.map wd) (wd ot) = (encB (addN nw s ot).1, (addN nw s ot).2.map wd) := by
  unfold addD addN
  rw [dGet_enc, Option.isSome_map]
  cases h : (lookB s.1 ot).isSome with
  | true => simp
  | false =>
    simp only [Bool.false_eq_true, if_false]
    unfold dPut
    rw [any_enc, h, if_neg Bool.false_ne_true, List.map_append]
    unfold encB
    rw [List.map_append]; rfl
theorem fold_enc (nw : Wd) : ∀ (l : List Wd) (s : List (Wd × Option Wd) × List Wd), (l.map wd).foldl (addD (wd nw)) (encB s.1, s.2.map wd) = (encB (l.foldl (addN nw) s).1, (l.foldl (addN nw) s).2.map wd)
  | [], s => rfl
  | a :: l, s => by rw [List.map_cons, List.foldl_cons, List.foldl_cons, addD_enc, fold_enc nw l]
end MP

namespace MP
open PySem PySem.Spec PyProof.Rows L2
open PySem.W (Datum DatumOrd Tup)
open Cd (en)

/-! ### the searches, step by step -/
def okS (s : List (Wd × Option Wd) × List Wd) : Bool := decide (s.1.length ≤ 100) && decide (s.2.length ≤ 100)
def runN (sec : Wd) : Nat → List (Wd × Option Wd) × List Wd → Nat → Option (List (Wd × Option Wd) × List Wd)
  | 0, s, _ => if (lookB s.1 sec).isSome = true then some s else none
  | n + 1, s, k => if (lookB s.1 sec).isSome = true then some s else match s.2[k]? with
    | some now => if okS s = true ∧ now ∈ allW ∧ (nbr now).length ≤ 100 then runN sec n ((nbr now).foldl (addN now) s) (k + 1) else none
    | none => none
def hd (sec : Wd) (s : List (Wd × Option Wd) × List Wd) (k : Nat) (x0 x1 : Sl) : Store := [x0, x1, .va (wd sec), .dc (encB s.1) true, .ow (.lst (s.2.map wd)), .va (.int ((k : Nat) : Int)), .no, .no, .no, .no, .no, .no]
theorem run_t (sec : Wd) (s : List (Wd × Option Wd) × List Wd) (k : Nat) (x0 x1 : Sl) : T_move_way_1 (hd sec s k x0 x1) = .ok (!(lookB s.1 sec).isSome, hd sec s k x0 x1) := by
  have e := dGet_enc s.1 sec
  have e2 : (dGet (encB s.1) (wd sec)).isSome = (lookB s.1 sec).isSome := by rw [e, Option.isSome_map]
  have e3 := kOk_wd sec
  unfold T_move_way_1 hd
  revert e2 e3
  generalize encB s.1 = B
  generalize s.2.map wd = wt
  generalize wd sec = sd
  generalize ((k : Nat) : Int) = ki
  generalize (lookB s.1 sec).isSome = q
  intro e2 e3
  simp [mDIn, dcAt, e3, e2]
  rw [← e2]
  cases dGet B sd <;> rfl
theorem mvs_nbr (w : Wd) : (nbr w).map wd = (farN w).map (fun p => wd (mvF w p)) ++ (nearN w).map fun p => wd (mvN w p) := by
  unfold nbr
  rw [List.map_append, List.map_map, List.map_map]; rfl
theorem run_b {sec now : Wd} {s : List (Wd × Option Wd) × List Wd} {k : Nat} {x0 x1 : Sl} (hk : s.2[k]? = some now) (ho : okS s = true) (hw : now ∈ allW) (hn : (nbr now).length ≤ 100) :
    W_move_way_3 (hd sec s k x0 x1) = .next (hd sec ((nbr now).foldl (addN now) s) (k + 1) .no .no) := by
  have ho' : s.1.length ≤ 100 ∧ s.2.length ≤ 100 := by unfold okS at ho; simpa using ho
  have hl : (farN now).length + (nearN now).length ≤ 100 := by
    unfold nbr at hn
    rw [List.length_append, List.length_map, List.length_map] at hn
    exact hn
  have e := mw4 (sec := wd sec) (nw := wd now) (k := k) (x11 := .no) (x0 := x0) (x1 := x1) (x6 := .no) (x7 := .no) (x8 := .no) (B := encB s.1) (wt := s.2.map wd) (mf := fun p => wd (mvF now p)) (mn := fun p => wd (mvN now p)) (fs := farN now) (ns := nearN now)
    (by rw [List.getElem?_map, hk]; rfl) rfl rfl rfl (far_t now hw) (near_t now hw) (fun p hp => ⟨mvF_t hw hp, kOk_wd _⟩) (fun p hp => ⟨mvN_t hw hp, kOk_wd _⟩)
    (by unfold encB; rw [List.length_map]; omega) (by rw [List.length_map]; omega)
  rw [← mvs_nbr, fold_enc] at e
  exact e
theorem run_eq {sec : Wd} : ∀ (n : Nat) (s : List (Wd × Option Wd) × List Wd) (k : Nat) (x0 x1 : Sl) (s' : List (Wd × Option Wd) × List Wd), runN sec n s k = some s' → ∀ m, ∃ k' y0 y1, whileL T_move_way_1 W_move_way_3 (m + n + 1) (hd sec s k x0 x1) = .next (hd sec s' k' y0 y1)
  | n, s, k, x0, x1, s', h, m => by
    rw [whileL_succ, run_t, R.thenS_ok]
    cases q : (lookB s.1 sec).isSome with
    | true =>
      have : s = s' := by cases n <;> (unfold runN at h; rw [if_pos q] at h; exact Option.some.inj h)
      subst this
      exact ⟨k, x0, x1, rfl⟩
    | false =>
      cases n with
      | zero => unfold runN at h; rw [q, if_neg Bool.false_ne_true] at h; cases h
      | succ n =>
        unfold runN at h
        rw [q, if_neg Bool.false_ne_true] at h
        cases e : s.2[k]? with
        | none => rw [e] at h; cases h
        | some now =>
          rw [e] at h
          dsimp only at h
          by_cases hc : okS s = true ∧ now ∈ allW ∧ (nbr now).length ≤ 100
          · rw [if_pos hc] at h
            obtain ⟨k', y0, y1, e2⟩ := run_eq n _ _ .no .no _ h m
            refine ⟨k', y0, y1, ?_⟩
            show (if (!false) = true then _ else _) = _
            rw [if_pos (show (!false) = true from rfl), run_b e hc.1 hc.2.1 hc.2.2, FR.turn_next]
            exact e2
          · rw [if_neg hc] at h; cases h
/-! the way back -/
def backN (bs : List (Wd × Option Wd)) : Nat → List Wd → Wd → Option (List Wd)
  | 0, _, _ => none
  | n + 1, l, x => match lookB bs x with
    | some none => some (l ++ [x])
    | some (some q) => if l.length ≤ 100 then backN bs n (l ++ [x]) q else none
    | none => none
def hb (s : List (Wd × Option Wd) × List Wd) (l : List Wd) (x : Wd) : Store := [.no, .no, .no, .dc (encB s.1) true, .no, .no, .no, .no, .no, .no, .no, .ow (.lst ((l ++ [x]).map wd))]
theorem ix_last (l : List Wd) (x : Wd) : ixG (.lst ((l ++ [x]).map wd)) (.int (-1)) = some (.inl (wd x)) := by
  show (atI _ (-1)).map _ = _
  have h : atI ((l ++ [x]).map wd) (-1) = some (wd x) := by
    unfold atI ixN
    rw [List.map_append, List.length_append, List.length_map]
    have h1 : ¬ (0 : Int) ≤ -1 := by omega
    simp
    rw [if_pos (by omega)]
    simp only [Option.bind_some]
    rw [show (-1 + (((l.length : Nat) : Int) + 1)).toNat = l.length by omega, List.getElem?_append_right (by rw [List.length_map]; omega), List.length_map, Nat.sub_self]
    rfl
  rw [h]; rfl
theorem back_t {s : List (Wd × Option Wd) × List Wd} {l : List Wd} {x : Wd} {o : Option Wd} (h : lookB s.1 x = some o) : T_move_way_2 (hb s l x) = .ok (o.isSome, hb s l x) := by
  have e1 := ix_last l x
  have e2 : dGet (encB s.1) (wd x) = some (oD o) := by rw [dGet_enc, h]; rfl
  have e3 := kOk_wd x
  have e4 : isNon (oD o) = o.isNone := by cases o <;> rfl
  unfold T_move_way_2 hb
  revert e1 e2 e3 e4
  generalize (l ++ [x]).map wd = wl
  generalize encB s.1 = B
  generalize oD o = od
  generalize wd x = xd
  intro e1 e2 e3 e4
  simp [e1, mDGet, dcAt, e2, e3, e4, negG]
theorem back_b {s : List (Wd × Option Wd) × List Wd} {l : List Wd} {x q : Wd} (h : lookB s.1 x = some (some q)) (hl : l.length ≤ 100) : W_move_way_4 (hb s l x) = .next (hb s (l ++ [x]) q) := by
  have e1 := ix_last l x
  have e2 : dGet (encB s.1) (wd x) = some (wd q) := by rw [dGet_enc, h]; rfl
  have e3 := kOk_wd x
  have e5 : (l ++ [x] ++ [q]).map wd = (l ++ [x]).map wd ++ [wd q] := by rw [List.map_append (l₁ := l ++ [x])]; rfl
  have e6 : ((l ++ [x]).map wd).length < 16777216 := by rw [List.length_map, List.length_append]; show l.length + 1 < _; omega
  unfold W_move_way_4 hb
  rw [e5]
  revert e1 e2 e3 e6
  generalize (l ++ [x]).map wd = wl
  generalize encB s.1 = B
  generalize wd q = qd
  generalize wd x = xd
  intro e1 e2 e3 e6
  simp [e1, mDGet, dcAt, e2, e3, negG, e6]
theorem back_eq {s : List (Wd × Option Wd) × List Wd} : ∀ (n : Nat) (l : List Wd) (x : Wd) (ws : List Wd), backN s.1 n l x = some ws → ∀ m, ∃ l' x', ws = l' ++ [x'] ∧ whileL T_move_way_2 W_move_way_4 (m + n) (hb s l x) = .next (hb s l' x')
  | 0, l, x, ws, h, m => by cases h
  | n + 1, l, x, ws, h, m => by
    unfold backN at h
    show ∃ l' x', _ ∧ whileL _ _ ((m + n) + 1) _ = _
    cases q : lookB s.1 x with
    | none => rw [q] at h; cases h
    | some o =>
      rw [q] at h
      rw [whileL_succ, back_t q, R.thenS_ok]
      cases o with
      | none => exact ⟨l, x, (Option.some.inj h).symm, rfl⟩
      | some y =>
        dsimp only at h
        by_cases hl : l.length ≤ 100
        · rw [if_pos hl] at h
          obtain ⟨l', x', e1, e2⟩ := back_eq n _ _ _ h m
          refine ⟨l', x', e1, ?_⟩
          show (if true = true then _ else _) = _
          rw [if_pos rfl, back_b q hl, FR.turn_next]
          exact e2
        · rw [if_neg hl] at h; cases h
end MP

namespace MP
open PySem PySem.Spec PyProof.Rows L2
open PySem.W (Datum DatumOrd Tup)
open Cd (en)

/-! ### move_way -/
theorem check_net_ok {n : Nat} {w : Wd} (hn : n ≤ 6) (h : isNet n w = true) : f_check_net [.int ((n : Nat) : Int), wd w] = .ret .non none := by
  have e := is_net_eq (n := n) (w := w) hn
  rw [h] at e
  show (match B_check_net [.va (.int ((n : Nat) : Int)), .va (wd w)] with
    | .ret d ρ => outOf none d ρ
    | .next ρ => outOf none .non ρ
    | .exc c p => if (none : Option Nat) = none then .exc c p else .bad
    | _ => .bad) = _
  have e2 : B_check_net [.va (.int ((n : Nat) : Int)), .va (wd w)] = .next [.no, .no] := by
    revert e
    generalize wd w = ww
    generalize ((n : Nat) : Int) = ni
    intro e
    unfold B_check_net
    simp [e]
  rw [e2]; rfl
theorem check_net_no {n : Nat} {w : Wd} (hn : n ≤ 6) (h : isNet n w = false) : f_check_net [.int ((n : Nat) : Int), wd w] = .exc "InvalidTable" (wd w) := by
  have e := is_net_eq (n := n) (w := w) hn
  rw [h] at e
  show (match B_check_net [.va (.int ((n : Nat) : Int)), .va (wd w)] with
    | .ret d ρ => outOf none d ρ
    | .next ρ => outOf none .non ρ
    | .exc c p => if (none : Option Nat) = none then .exc c p else .bad
    | _ => .bad) = _
  have e2 : B_check_net [.va (.int ((n : Nat) : Int)), .va (wd w)] = .exc "InvalidTable" (wd w) := by
    revert e
    generalize wd w = ww
    generalize ((n : Nat) : Int) = ni
    intro e
    unfold B_check_net
    simp [e, sExc, s_]
    rfl
  rw [e2]; rfl
def moveN (a b : Wd) : Option (List Wd) := (runN b 40 ([(a, none)], [a]) 0).bind fun s => (backN s.1 40 [] b).map List.reverse
theorem move_way_eq {n : Nat} {a b : Wd} {ws : List Wd} (hn : n ≤ 6) (ha : isNet n a = true) (hb' : isNet n b = true) (h : moveN a b = some ws) : f_move_way [.int ((n : Nat) : Int), wd a, wd b] = .ret (.lst (ws.map wd)) none := by
  have c1 := check_net_ok hn ha
  have c2 := check_net_ok hn hb'
  unfold moveN at h
  cases h1 : runN b 40 ([(a, none)], [a]) 0 with
  | none => rw [h1] at h; cases h
  | some s =>
    rw [h1, Option.bind_some] at h
    cases h2 : backN s.1 40 [] b with
    | none => rw [h2] at h; cases h
    | some us =>
      rw [h2] at h
      have hw : ws = us.reverse := (Option.some.inj h).symm
      obtain ⟨k', y0, y1, r1⟩ := run_eq 40 _ _ .no .no _ h1 999959
      obtain ⟨l', x', eu, r2⟩ := back_eq 40 _ _ _ h2 999960
      refine def_ret rfl ?_
      show ∃ ρ, B_move_way [.va (.int ((n : Nat) : Int)), .va (wd a), .va (wd b), .no, .no, .no, .no, .no, .no, .no, .no, .no] = .ret _ ρ
      have r1 : whileL T_move_way_1 W_move_way_3 wF [.no, .no, .va (wd b), .dc [(wd a, .non)] true, .ow (.lst [wd a]), .va (.int 0), .no, .no, .no, .no, .no, .no] = .next (hd b s k' y0 y1) := r1
      have r2 : whileL T_move_way_2 W_move_way_4 wF [.no, .no, .no, .dc (encB s.1) true, .no, .no, .no, .no, .no, .no, .no, .ow (.lst [wd b])] = .next (hb s l' x') := r2
      have r3 : revG true (.lst (us.map wd)) = some (.inr (ws.map wd)) := by
        show some (Sum.inr _) = _
        rw [hw, List.map_reverse]; rfl
      have ko := kOk_wd a
      unfold hd at r1
      unfold hb at r2
      rw [← eu] at r2
      revert c1 c2 r1 r2 r3 ko
      generalize us.map wd = ul
      generalize ws.map wd = wl
      generalize encB s.1 = B
      generalize s.2.map wd = wt
      generalize wd a = ad
      generalize wd b = bd
      generalize ((k' : Nat) : Int) = ki
      generalize ((n : Nat) : Int) = ni
      intro c1 c2 r1 r2 r3 ko
      unfold B_move_way
      simp [c1, c2, sDDT, ko, sWh, r1, r2, r3]
end MP

namespace MP
open PySem PySem.Spec PyProof.Rows L2
open PySem.W (Datum DatumOrd Tup)
open Cd (en)

/-! ### _law_steps -/
theorem map_wd_en (l : List Wd) : l.map wd = (l.map tpI).map en := by rw [List.map_map]; exact List.map_congr_left fun w _ => wd_en w
theorem mem_tpI {a : Wd} {l : List Wd} : tpI a ∈ l.map tpI ↔ a ∈ l := by
  rw [List.mem_map]
  exact ⟨fun ⟨b, hb, e⟩ => tpI_inj.mp e ▸ hb, fun h => ⟨a, h, rfl⟩⟩
theorem nin_wd (a : Wd) (l : List Wd) : cmpB .NotIn (wd a) (.lst (l.map wd)) = some (decide (a ∉ l)) := by
  rw [wd_en, map_wd_en]
  exact (ninG_en (by decide) _ _).trans (congrArg some (decide_eq_decide.mpr (not_congr mem_tpI)))
theorem in_wd (a : Wd) (l : List Wd) : cmpB .In (wd a) (.lst (l.map wd)) = some (decide (a ∈ l)) := by
  rw [wd_en, map_wd_en]
  exact (inG_en (by decide) _ _).trans (congrArg some (decide_eq_decide.mpr mem_tpI))
def newN (met lat : List Wd) (w : Wd) : List Wd := (nbr w).filter fun o => decide (o ∉ met) && decide (o ∉ lat)
theorem st_c {x0 x1 x2 x4 : Sl} {met lat : List Wd} {w : Wd} (hw : w ∈ allW) :
    C__law_steps_1 [x0, x1, x2, .va (.lst (met.map wd)), x4, .va (.lst (lat.map wd)), .va (wd w), .no] = .ok ((newN met lat w).map wd, [x0, x1, x2, .va (.lst (met.map wd)), x4, .va (.lst (lat.map wd)), .va (wd w), .no]) := by
  have e := lnear_t w hw
  unfold C__law_steps_1 newN
  refine lcV (c := wd) (nbr w) ?_ rfl fun o ho => ?_
  · revert e
    generalize wd w = ww
    generalize (nbr w).map wd = nn
    intro e
    simp [e]
  · have e1 := nin_wd o met
    have e2 := nin_wd o lat
    revert e1 e2
    generalize met.map wd = mm
    generalize lat.map wd = ll
    generalize wd o = oo
    generalize decide (o ∉ met) = d1
    generalize decide (o ∉ lat) = d2
    intro e1 e2
    cases d1 <;> simp [e1, e2]
theorem room_of {n : Nat} (h : n ≤ 100000) : room n = true := by
  unfold room
  exact decide_eq_true (by omega)
theorem add_l {xs ys : List D} (h : xs.length + ys.length ≤ 100000) : addG (.lst xs) (.lst ys) = some (.inr (xs ++ ys)) := by
  show (if room (xs.length + ys.length) = true then _ else _) = _
  rw [if_pos (room_of h)]
theorem nbr_len : ∀ w ∈ allW, (nbr w).length ≤ 10 := by decide +kernel
theorem newN_len {met lat : List Wd} {w : Wd} (hw : w ∈ allW) : (newN met lat w).length ≤ 10 := Nat.le_trans (List.length_filter_le _ _) (nbr_len w hw)
theorem st_1 {x0 : Sl} {sec st : D} {lv met lat : List Wd} {w : Wd} (hw : w ∈ allW) (hl : lat.length ≤ 10000) :
    W__law_steps_1 [x0, .va sec, .va (.lst (lv.map wd)), .va (.lst (met.map wd)), .va st, .va (.lst (lat.map wd)), .va (wd w), .no] = .next [.no, .va sec, .va (.lst (lv.map wd)), .va (.lst (met.map wd)), .va st, .va (.lst ((lat ++ newN met lat w).map wd)), .no, .no] := by
  have e := st_c (x0 := x0) (x1 := .va sec) (x2 := .va (.lst (lv.map wd))) (x4 := .va st) (met := met) (lat := lat) hw
  have ea : addG (.lst (lat.map wd)) (.lst ((newN met lat w).map wd)) = some (.inr (lat.map wd ++ (newN met lat w).map wd)) := add_l (by
    have := newN_len (met := met) (lat := lat) hw
    rw [List.length_map, List.length_map]; omega)
  rw [List.map_append]
  revert e ea
  generalize (newN met lat w).map wd = nn
  generalize met.map wd = mm
  generalize lat.map wd = ll
  generalize lv.map wd = vv
  generalize wd w = ww
  intro e ea
  unfold W__law_steps_1
  simp [e, ea]
theorem st_2 {sec st : D} {lv met : List Wd} : ∀ (r lat : List Wd) (x0 : Sl), (∀ w ∈ r, w ∈ allW) → lat.length + 10 * r.length ≤ 10000 → ∃ y0, forL (gNm 6) W__law_steps_1 (r.map wd) [x0, .va sec, .va (.lst (lv.map wd)), .va (.lst (met.map wd)), .va st, .va (.lst (lat.map wd)), .no, .no] =
    .next [y0, .va sec, .va (.lst (lv.map wd)), .va (.lst (met.map wd)), .va st, .va (.lst ((r.foldl (fun l w => l ++ newN met l w) lat).map wd)), .no, .no]
  | [], lat, x0, _, _ => ⟨x0, rfl⟩
  | w :: r, lat, x0, h, l1 => by
    have l2 := newN_len (met := met) (lat := lat) (h w List.mem_cons_self)
    rw [List.length_cons] at l1
    obtain ⟨y0, e⟩ := st_2 (sec := sec) (st := st) (lv := lv) (met := met) r (lat ++ newN met lat w) .no (fun v hv => h v (List.mem_cons_of_mem _ hv)) (by rw [List.length_append]; omega)
    refine ⟨y0, ?_⟩
    show (gNm 6 (wd w) [x0, .va sec, .va (.lst (lv.map wd)), .va (.lst (met.map wd)), .va st, .va (.lst (lat.map wd)), .no, .no]).thenS _ = _
    have e1 : gNm 6 (wd w) [x0, .va sec, .va (.lst (lv.map wd)), .va (.lst (met.map wd)), .va st, .va (.lst (lat.map wd)), .no, .no] = .ok [x0, .va sec, .va (.lst (lv.map wd)), .va (.lst (met.map wd)), .va st, .va (.lst (lat.map wd)), .va (wd w), .no] := rfl
    have e5 := st_1 (x0 := x0) (sec := sec) (st := st) (lv := lv) (met := met) (lat := lat) (h w List.mem_cons_self) (by omega)
    rw [e1, R.thenS_ok, e5]
    exact e
def lvN (met lv : List Wd) : List Wd := lv.foldl (fun l w => l ++ newN met l w) []
theorem st_2e {sec st : D} {lv met : List Wd} {x0 : Sl} (h : ∀ w ∈ lv, w ∈ allW) (hl : lv.length ≤ 100) : ∃ y0 s5, forL (gNm 6) W__law_steps_1 (lv.map wd) [x0, .va sec, .va (.lst (lv.map wd)), .va (.lst (met.map wd)), .va st, .va (.lst []), .no, .no] =
    .next [y0, .va sec, .va (.lst (lv.map wd)), .va (.lst (met.map wd)), .va st, s5, .no, .no] ∧ s5 = .va (.lst ((lvN met lv).map wd)) := by
  obtain ⟨y0, e⟩ := st_2 (sec := sec) (st := st) (met := met) (lv := lv) lv [] x0 h (by show 0 + _ ≤ _; omega)
  exact ⟨y0, _, e, rfl⟩
def sh (sec : Wd) (lv met : List Wd) (k : Nat) (x0 : Sl) (o : Bool) : Store := [x0, .va (wd sec), if o = true then .ow (.lst (lv.map wd)) else .va (.lst (lv.map wd)), if o = true then .ow (.lst (met.map wd)) else .va (.lst (met.map wd)), .va (.int ((k : Nat) : Int)), .no, .no, .no]
theorem st_b {sec : Wd} {lv met : List Wd} {k : Nat} {x0 : Sl} (h : ∀ w ∈ lv, w ∈ allW) (hl : lv.length ≤ 100) (hm : met.length ≤ 1000) (hn : (lvN met lv).length ≤ 1000) : W__law_steps_2 (sh sec lv met k x0 false) = .next (sh sec (lvN met lv) (met ++ lvN met lv) (k + 1) .no false) := by
  obtain ⟨y0, s5, e, e5⟩ := st_2e (sec := wd sec) (st := .int ((k : Nat) : Int)) (met := met) (x0 := .no) h hl
  subst e5
  unfold sh
  rw [List.map_append]
  have ec : (((k + 1 : Nat)) : Int) = ((k : Nat) : Int) + 1 := by omega
  rw [ec]
  simp only [Bool.false_eq_true, if_false]
  have ea : addG (.lst (met.map wd)) (.lst ((lvN met lv).map wd)) = some (.inr (met.map wd ++ (lvN met lv).map wd)) := add_l (by rw [List.length_map, List.length_map]; omega)
  revert e ea
  generalize (lvN met lv).map wd = nn
  generalize met.map wd = mm
  generalize lv.map wd = ll
  generalize wd sec = sd
  generalize ((k : Nat) : Int) = ki
  intro e ea
  unfold W__law_steps_2
  simp [e, ea, sPar]
theorem st_t {sec : Wd} {lv met : List Wd} {k : Nat} {x0 : Sl} : T__law_steps_1 (sh sec lv met k x0 false) = .ok (decide (sec ∉ lv), sh sec lv met k x0 false) := by
  have e := nin_wd sec lv
  unfold sh
  simp only [Bool.false_eq_true, if_false]
  revert e
  generalize decide (sec ∉ lv) = q
  generalize met.map wd = mm
  generalize lv.map wd = ll
  generalize wd sec = sd
  generalize ((k : Nat) : Int) = ki
  intro e
  unfold T__law_steps_1
  simp [e]
def okV (lv met : List Wd) : Bool := (lv.all fun w => decide (w ∈ allW)) && (decide (lv.length ≤ 100) && (decide (met.length ≤ 1000) && decide ((lvN met lv).length ≤ 1000)))
def runS (sec : Wd) : Nat → List Wd → List Wd → Nat → Option Nat
  | 0, lv, _, k => if sec ∈ lv then some k else none
  | n + 1, lv, met, k => if sec ∈ lv then some k else if okV lv met = true then runS sec n (lvN met lv) (met ++ lvN met lv) (k + 1) else none
theorem runS_eq {sec : Wd} : ∀ (n : Nat) (lv met : List Wd) (k : Nat) (x0 : Sl) (k' : Nat), runS sec n lv met k = some k' → ∀ m, ∃ lv' met' y0, whileL T__law_steps_1 W__law_steps_2 (m + n + 1) (sh sec lv met k x0 false) = .next (sh sec lv' met' k' y0 false)
  | n, lv, met, k, x0, k', h, m => by
    rw [whileL_succ, st_t, R.thenS_ok]
    by_cases q : sec ∈ lv
    · have : k = k' := by cases n <;> (unfold runS at h; rw [if_pos q] at h; exact Option.some.inj h)
      subst this
      refine ⟨lv, met, x0, ?_⟩
      rw [show decide (sec ∉ lv) = false by simpa using q]
      rfl
    · cases n with
      | zero => unfold runS at h; rw [if_neg q] at h; cases h
      | succ n =>
        unfold runS at h
        rw [if_neg q] at h
        by_cases hc : okV lv met = true
        · rw [if_pos hc] at h
          obtain ⟨lv', met', y0, e2⟩ := runS_eq n _ _ _ .no _ h m
          refine ⟨lv', met', y0, ?_⟩
          have hc2 : (∀ w ∈ lv, w ∈ allW) ∧ lv.length ≤ 100 ∧ met.length ≤ 1000 ∧ (lvN met lv).length ≤ 1000 := by unfold okV at hc; simpa using hc
          rw [show decide (sec ∉ lv) = true by simpa using q]
          show (if true = true then _ else _) = _
          rw [if_pos rfl, st_b hc2.1 hc2.2.1 hc2.2.2.1 hc2.2.2.2, FR.turn_next]
          exact e2
        · rw [if_neg hc] at h; cases h
theorem law_steps_eq {a b : Wd} {k : Nat} (h : runS b 40 [a] [a] 0 = some k) : f__law_steps [wd a, wd b] = .ret (.int ((k : Nat) : Int)) none := by
  obtain ⟨lv', met', y0, e⟩ := runS_eq 40 [a] [a] 0 .no k h 999959
  refine def_ret rfl ?_
  show ∃ ρ, B__law_steps [.va (wd a), .va (wd b), .no, .no, .no, .no, .no, .no] = .ret _ ρ
  have e : whileL T__law_steps_1 W__law_steps_2 wF [.no, .va (wd b), .va (.lst [wd a]), .va (.lst [wd a]), .va (.int 0), .no, .no, .no] = .next (sh b lv' met' k y0 false) := e
  unfold sh at e
  simp only [Bool.false_eq_true, if_false] at e
  revert e
  generalize lv'.map wd = l1
  generalize met'.map wd = l2
  generalize wd a = ad
  generalize wd b = bd
  generalize ((k : Nat) : Int) = ki
  intro e
  unfold B__law_steps
  simp [sWh, e, sPar]
end MP

namespace MP
open PySem PySem.Spec PyProof.Rows L2
open PySem.W (Datum DatumOrd Tup)
open Cd (en)

/-! ### all pairs -/
def chainN : List Wd → Bool
  | a :: b :: r => decide (b ∈ nbr a) && chainN (b :: r)
  | _ => true
def pairOk (n : Nat) (a b : Wd) : Bool := match moveN a b with
  | none => false
  | some ws => decide (ws.head? = some a) && (decide (ws.getLast? = some b) && (chainN ws && ((ws.all fun w => decide (w ∈ nets n)) && (decide (ws.length ≤ 20) && (decide (runS b 40 [a] [a] 0 = some (ws.length - 1)) && match moveN b a with
    | none => false
    | some us => decide (us.length = ws.length))))))
theorem pairs2 : ∀ a ∈ nets2, ∀ b ∈ nets2, pairOk 2 a b = true := by decide +kernel
theorem pairs3 : ∀ a ∈ nets3, ∀ b ∈ nets3, pairOk 3 a b = true := by decide +kernel

theorem pairs4 : ∀ a ∈ nets4, ∀ b ∈ nets4, pairOk 4 a b = true := by decide +kernel
end MP

namespace MP
open PySem PySem.Spec PyProof.Rows L2
open PySem.W (Datum DatumOrd Tup)
open Cd (en)

/-! ### all_nets -/
def lC : Es := sPre [(6, true), (0, false), (1, false), (5, true), (4, true)] (sWh T_all_nets_1 W_all_nets_2)
def lR : Es := sRet (mz (opNM sortG (aCons (pk 2) xNil)))
theorem sort_w {F S : List Wd} (hp : F.Perm S) (hs : (S.map tpI).Pairwise fun a b => (!DatumOrd.lt b a) = true) (ht : srtb (F.map wd) = true) : sortG [.lst (F.map wd)] = some (.inr (S.map wd)) := by
  rw [map_wd_en] at ht ⊢
  rw [sortG_en (by decide) _ ht, sortO_eq (hp.map tpI), map_wd_en]
  unfold sortO
  rw [List.mergeSort_of_pairwise hs]
theorem an_end {n : Nat} {F S : List Wd} {st : D} (h : lC [.va (.int ((n : Nat) : Int)), .va (.int 99), .ow (.lst []), .ow (.lst [.tup [.tup [], st]]), .no, .no, .no] = .next [.va (.int ((n : Nat) : Int)), .va (.int 99), .ow (.lst (F.map wd)), .ow (.lst []), .no, .no, .no])
    (hr : (sSetM 3 (nw (dspF (xCons (mz (pl (dsp .tup (xCons (mz (pl (dsp .tup xNil))) (xCons (mz (pl (tpF (itR ints1 (aCons (pk 0) xNil))))) xNil))))) xNil))) : Es) [.va (.int ((n : Nat) : Int)), .va (.int 99), .ow (.lst []), .no, .no, .no, .no] = .next [.va (.int ((n : Nat) : Int)), .va (.int 99), .ow (.lst []), .ow (.lst [.tup [.tup [], st]]), .no, .no, .no])
    (hs : sortG [.lst (F.map wd)] = some (.inr (S.map wd))) : f_all_nets [.int ((n : Nat) : Int), .int 99] = .ret (.lst (S.map wd)) none := by
  refine def_ret rfl ?_
  show ∃ ρ, B_all_nets [.va (.int ((n : Nat) : Int)), .va (.int 99), .no, .no, .no, .no, .no] = .ret _ ρ
  have e0 : ∀ g : Es, sSeq (sSetM 2 (nw (dspF xNil))) g [.va (.int ((n : Nat) : Int)), .va (.int 99), .no, .no, .no, .no, .no] = g [.va (.int ((n : Nat) : Int)), .va (.int 99), .ow (.lst []), .no, .no, .no, .no] := fun g => rfl
  have e1 : ∀ (a g : Es) (ρ ρ' : Store), a ρ = .next ρ' → sSeq a g ρ = g ρ' := fun a g ρ ρ' e => by show (a ρ).bind g = _; rw [e]; rfl
  unfold B_all_nets
  rw [e0, e1 _ _ _ _ hr]
  show ∃ ρ, sSeq lC lR _ = _
  rw [e1 _ _ _ _ h]
  revert hs
  generalize F.map wd = FF
  generalize S.map wd = SS
  generalize ((n : Nat) : Int) = ni
  intro hs
  unfold lR
  simp [hs]
theorem all_nets_eq {n : Nat} (h : n ∈ [2, 3, 4]) : f_all_nets [.int ((n : Nat) : Int), .int 99] = .ret (.lst ((nets n).map wd)) none := by
  have : n = 2 ∨ n = 3 ∨ n = 4 := by simpa using h
  rcases this with e | e | e <;> subst e
  · exact an_end (n := 2) (F := nets2.reverse) (st := wd [0, 1]) (by kernel_rfl) (by kernel_rfl) (sort_w (List.reverse_perm _) (by decide +kernel) (by kernel_rfl))
  · exact an_end (n := 3) (F := nets3.reverse) (st := wd [0, 1, 2]) (by kernel_rfl) (by kernel_rfl) (sort_w (List.reverse_perm _) (by decide +kernel) (by kernel_rfl))
  · exact an_end (n := 4) (F := nets4.reverse) (st := wd [0, 1, 2, 3]) (by kernel_rfl) (by kernel_rfl) (sort_w (List.reverse_perm _) (by decide +kernel) (by kernel_rfl))
end MP

namespace MP
open PySem PySem.Spec PyProof.Rows L2
open PySem.W (Datum DatumOrd Tup)
open Cd (en)

/-! ### is_move_way -/
theorem forL_chk {α : Type} {g : Tg} {b : Es} {c : α → D} {P : α → Bool} {d : D} {ρ0 : Store} : ∀ (xs : List α), (∀ x ∈ xs, ∃ ρ1, g (c x) ρ0 = .ok ρ1 ∧ (P x = true → b ρ1 = .next ρ0) ∧ (P x = false → ∃ ρ2, b ρ1 = .ret d ρ2)) →
    (xs.all P = true → forL g b (xs.map c) ρ0 = .next ρ0) ∧ (xs.all P = false → ∃ ρ2, forL g b (xs.map c) ρ0 = .ret d ρ2)
  | [], _ => ⟨fun _ => rfl, fun h => by cases h⟩
  | x :: xs, h => by
    obtain ⟨ρ1, e1, e2, e3⟩ := h x List.mem_cons_self
    obtain ⟨i1, i2⟩ := forL_chk xs fun y hy => h y (List.mem_cons_of_mem _ hy)
    have un : forL g b ((x :: xs).map c) ρ0 = (b ρ1).turn (forL g b (xs.map c)) := by rw [List.map_cons, forL, e1, R.thenS_ok]
    rw [un, List.all_cons]
    cases hp : P x with
    | true => rw [e2 hp, Bool.true_and]; exact ⟨i1, i2⟩
    | false =>
      obtain ⟨ρ2, e4⟩ := e3 hp
      rw [e4, Bool.false_and]
      exact ⟨fun z => by (cases z), fun _ => ⟨ρ2, rfl⟩⟩
def mS (W : List D) (k : Sl) (now told : Sl) : Store := [.no, .no, .no, .va (.lst W), .no, k, now, told, .no]
theorem im_c2 {W : List D} {k told : Sl} {w : Wd} (hw : w ∈ allW) : C_is_move_way_2 (mS W k (.va (wd w)) told) = .ok (((farN w).map (mvF w)).map wd, mS W k (.va (wd w)) told) := by
  have e := far_t w hw
  unfold C_is_move_way_2 mS
  rw [List.map_map]
  refine lcVa (c := fun p : Nat => D.int (p : Int)) (farN w) ?_ rfl fun p hp => ?_
  · revert e
    unfold nl
    generalize wd w = ww
    intro e
    simp [e]
  · have e1 := mvF_t hw hp
    revert e1
    generalize wd w = ww
    show f_moved_word _ = Out.ret (wd (mvF w p)) none → _
    generalize hq : wd (mvF w p) = q
    intro e1
    simp [s_, e1, hq]
theorem im_c3 {W : List D} {k told : Sl} {w : Wd} (hw : w ∈ allW) : C_is_move_way_3 (mS W k (.va (wd w)) told) = .ok (((nearN w).map (mvN w)).map wd, mS W k (.va (wd w)) told) := by
  have e := near_t w hw
  unfold C_is_move_way_3 mS
  rw [List.map_map]
  refine lcVa (c := fun p : Nat => D.int (p : Int)) (nearN w) ?_ rfl fun p hp => ?_
  · revert e
    unfold nl
    generalize wd w = ww
    intro e
    simp [e]
  · have e1 := mvN_t hw hp
    revert e1
    generalize wd w = ww
    show f_moved_word _ = Out.ret (wd (mvN w p)) none → _
    generalize hq : wd (mvN w p) = q
    intro e1
    simp [s_, e1, hq]
theorem im_b {W : List D} {k : Nat} {w x : Wd} (hw : w ∈ allW) (h1 : W[k]? = some (wd w)) (h2 : W[k + 1]? = some (wd x)) :
    (decide (x ∈ nbr w) = true → W_is_move_way_1 (mS W (.va (.int ((k : Nat) : Int))) .no .no) = .next (mS W .no .no .no)) ∧ (decide (x ∈ nbr w) = false → ∃ ρ2, W_is_move_way_1 (mS W (.va (.int ((k : Nat) : Int))) .no .no) = .ret (.bl false) ρ2) := by
  have i1 := d_ixL h1
  have i2 : ixG (.lst W) (.int (((k : Nat) : Int) + 1)) = some (.inl (wd x)) := d_ixL h2
  have c2 := im_c2 (W := W) (k := .va (.int ((k : Nat) : Int))) (told := .no) hw
  have c3 := im_c3 (W := W) (k := .va (.int ((k : Nat) : Int))) (told := .ow (.lst (((farN w).map (mvF w)).map wd))) hw
  have en' := nin_wd x (nbr w)
  have hn : (nbr w).map wd = ((farN w).map (mvF w)).map wd ++ ((nearN w).map (mvN w)).map wd := by unfold nbr; rw [List.map_append]
  have hl : (((farN w).map (mvF w)).map wd).length + (((nearN w).map (mvN w)).map wd).length ≤ 1000 := by
    have := nbr_len w hw
    rw [← List.length_append, ← hn, List.length_map]; omega
  rw [hn] at en'
  have q : decide (x ∉ nbr w) = !decide (x ∈ nbr w) := by simp
  rw [q] at en'
  revert i1 i2 c2 c3 en' hl
  generalize ((farN w).map (mvF w)).map wd = ff
  generalize ((nearN w).map (mvN w)).map wd = nn
  generalize decide (x ∈ nbr w) = dq
  generalize wd w = ww
  generalize wd x = xx
  generalize ((k : Nat) : Int) = ki
  unfold mS
  intro i1 i2 c2 c3 en' hl
  have r1 : room (ff.length + nn.length) = true := room_of (by omega)
  unfold W_is_move_way_1
  cases dq with
  | true =>
    refine ⟨fun _ => ?_, fun z => by (cases z)⟩
    simp [i1, i2, c2, c3, en', sOwn, sAugA, r1]
  | false =>
    refine ⟨fun z => by (cases z), fun _ => ?_⟩
    simp [i1, i2, c2, c3, en', sOwn, sAugA, r1]
theorem eq_nil (ws : List Wd) : cmpB .Eq (.lst (ws.map wd)) (.lst []) = some (decide (ws = [])) := by
  rw [map_wd_en]
  have e := eqG_en (α := List (Tup Int)) (by decide) (ws.map tpI) []
  have e : cmpB .Eq (.lst ((ws.map tpI).map en)) (.lst []) = some (decide (ws.map tpI = [])) := e
  rw [e]
  exact congrArg some (decide_eq_decide.mpr List.map_eq_nil_iff)
theorem ne_nil (ws : List Wd) : cmpB .NotEq (.lst (ws.map wd)) (.lst []) = some (decide (ws ≠ [])) := by
  rw [map_wd_en]
  have e := neG_en (α := List (Tup Int)) (by decide) (ws.map tpI) []
  have e : cmpB .NotEq (.lst ((ws.map tpI).map en)) (.lst []) = some (decide (ws.map tpI ≠ [])) := e
  rw [e]
  exact congrArg some (decide_eq_decide.mpr (not_congr List.map_eq_nil_iff))
def okK (ws : List Wd) (k : Nat) : Bool := decide (ws.getD (k + 1) [] ∈ nbr (ws.getD k []))
theorem chain_all : ∀ ws : List Wd, ((List.range (ws.length - 1)).all (okK ws)) = chainN ws
  | [] => rfl
  | [a] => rfl
  | a :: b :: r => by
    have ih := chain_all (b :: r)
    have e : (a :: b :: r).length - 1 = (b :: r).length - 1 + 1 := by simp
    rw [e, List.range_succ_eq_map, List.all_cons, List.all_map]
    unfold chainN
    rw [← ih]
    rfl
def isWay (a b : Wd) (ws : List Wd) : Bool := decide (ws.head? = some a) && (decide (ws.getLast? = some b) && chainN ws)
theorem im_loop {ws : List Wd} (h : ∀ w ∈ ws, w ∈ allW) : (chainN ws = true → forL (gNm 5) W_is_move_way_1 (nl (List.range (ws.length - 1))) (mS (ws.map wd) .no .no .no) = .next (mS (ws.map wd) .no .no .no)) ∧ (chainN ws = false → ∃ ρ2, forL (gNm 5) W_is_move_way_1 (nl (List.range (ws.length - 1))) (mS (ws.map wd) .no .no .no) = .ret (.bl false) ρ2) := by
  rw [← chain_all]
  refine forL_chk (c := fun k : Nat => D.int (k : Int)) (List.range (ws.length - 1)) fun k hk => ?_
  have hk := List.mem_range.mp hk
  have g1 : ws[k]? = some (ws.getD k []) := by rw [List.getD_eq_getElem?_getD, List.getElem?_eq_getElem (by omega)]; rfl
  have g2 : ws[k + 1]? = some (ws.getD (k + 1) []) := by rw [List.getD_eq_getElem?_getD, List.getElem?_eq_getElem (by omega)]; rfl
  have b := im_b (W := ws.map wd) (k := k) (w := ws.getD k []) (x := ws.getD (k + 1) []) (h _ (List.mem_of_getElem? g1)) (by rw [List.getElem?_map, g1]; rfl) (by rw [List.getElem?_map, g2]; rfl)
  exact ⟨_, rfl, b.1, b.2⟩
theorem im_main {ni : Int} {ad bd hd' ld : D} {W bb rr : List D} {q1 q2 q3 : Bool} (e1 : cmpB .Eq (.lst W) (.lst []) = some false) (e2 : ixG (.lst W) (.int 0) = some (.inl hd')) (e3 : ixG (.lst W) (.int (-1)) = some (.inl ld)) (e4 : cmpB .NotEq hd' ad = some (!q1)) (e5 : cmpB .NotEq ld bd = some (!q2))
    (e6 : C_is_move_way_1 [.va (.int ni), .no, .no, .va (.lst W), .no, .no, .no, .no, .no] = .ok (bb, [.va (.int ni), .no, .no, .va (.lst W), .no, .no, .no, .no, .no])) (e7 : allG [.lst bb] = some (.inl (.bl true)))
    (e8 : ints1 [.int ((W.length : Int) - 1)] = some rr) (e9 : (q3 = true → forL (gNm 5) W_is_move_way_1 rr (mS W .no .no .no) = .next (mS W .no .no .no)) ∧ (q3 = false → ∃ ρ2, forL (gNm 5) W_is_move_way_1 rr (mS W .no .no .no) = .ret (.bl false) ρ2)) :
    ∃ ρ, B_is_move_way [.va (.int ni), .va ad, .va bd, .va (.lst W), .no, .no, .no, .no, .no] = .ret (.bl (q1 && (q2 && q3))) ρ := by
  have e0 : isaG "list" (.lst W) = some (.inl (.bl true)) := rfl
  have el : lenG [.lst W] = some (.inl (.int (W.length : Int))) := rfl
  revert e8 el
  generalize (W.length : Int) = li
  intro e8 el
  unfold mS at e9
  unfold B_is_move_way
  cases q1 with
  | false => simp [e0, e1, e2, e4, negG]
  | true =>
    cases q2 with
    | false => simp [e0, e1, e2, e3, e4, e5, negG]
    | true =>
      cases q3 with
      | true =>
        have e9 := e9.1 rfl
        simp [e0, e1, e2, e3, e4, e5, negG, e6, e7, el, e8, e9]
      | false =>
        obtain ⟨ρ2, e9⟩ := e9.2 rfl
        simp [e0, e1, e2, e3, e4, e5, negG, e6, e7, el, e8, e9]
end MP

namespace MP
open PySem PySem.Spec PyProof.Rows L2
open PySem.W (Datum DatumOrd Tup)
open Cd (en)

/-! ### is_move_way of all values -/
theorem eq_nilD (W : List D) : cmpB .Eq (.lst W) (.lst []) = some W.isEmpty := by
  show (if shp (.lst W) = true ∨ shp (.lst []) = true then some (eqv (.lst W) (.lst [])) else none) = _
  rw [if_pos (.inr (by kernel_rfl))]
  cases W with
  | nil => rfl
  | cons x xs =>
    unfold eqv
    rw [toPy, toPy, toPyL, toPyL, PyData.eqv, PyData.eqvAll]
    rfl
theorem ne_nilD (W : List D) : cmpB .NotEq (.lst W) (.lst []) = some (!W.isEmpty) := by
  show (cmpB .Eq (.lst W) (.lst [])).map (!·) = _
  rw [eq_nilD]; rfl
theorem shp_wd (w : Wd) : shp (wd w) = true := by rw [wd_en]; exact shp_en (by decide) _
theorem eq_any (x : D) (w : Wd) : cmpB .Eq x (wd w) = some (eqv x (wd w)) := by
  show (if shp x = true ∨ shp (wd w) = true then _ else _) = _
  rw [if_pos (.inr (shp_wd w))]
theorem ne_any (x : D) (w : Wd) : cmpB .NotEq x (wd w) = some (!eqv x (wd w)) := by
  show (cmpB .Eq x (wd w)).map (!·) = _
  rw [eq_any]; rfl
theorem eqv_non (w : Wd) : eqv .non (wd w) = false := by unfold eqv wd; rw [toPy, toPy, PyData.eqv]
theorem eqv_lst (xs : List D) (w : Wd) : eqv (.lst xs) (wd w) = false := by unfold eqv wd; rw [toPy, toPy, PyData.eqv]
theorem imw_way {n : Nat} {a b : Wd} {ws : List Wd} (hn : n ∈ [2, 3, 4]) (h0 : ws ≠ []) (h : ∀ w ∈ ws, w ∈ nets n) (hl : ws.length ≤ 1000) : f_is_move_way [.int ((n : Nat) : Int), wd a, wd b, .lst (ws.map wd)] = .ret (.bl (isWay a b ws)) none := by
  have hn6 : n ≤ 6 := by
    have : n = 2 ∨ n = 3 ∨ n = 4 := by simpa using hn
    omega
  refine def_ret rfl ?_
  show ∃ ρ, B_is_move_way [.va (.int ((n : Nat) : Int)), .va (wd a), .va (wd b), .va (.lst (ws.map wd)), .no, .no, .no, .no, .no] = .ret _ ρ
  obtain ⟨x, r, rfl⟩ : ∃ x r, ws = x :: r := by
    cases ws with
    | nil => exact absurd rfl h0
    | cons x r => exact ⟨x, r, rfl⟩
  obtain ⟨l, y, e⟩ : ∃ l y, x :: r = l ++ [y] := ⟨_, _, (List.dropLast_concat_getLast (by simp)).symm⟩
  have c6 : C_is_move_way_1 [.va (.int ((n : Nat) : Int)), .no, .no, .va (.lst ((x :: r).map wd)), .no, .no, .no, .no, .no] = .ok (((x :: r).map fun _ => true).map D.bl, [.va (.int ((n : Nat) : Int)), .no, .no, .va (.lst ((x :: r).map wd)), .no, .no, .no, .no, .no]) := by
    rw [List.map_map]
    unfold C_is_move_way_1
    refine lcVa (ρ := [.va (.int ((n : Nat) : Int)), .no, .no, .va (.lst ((x :: r).map wd)), .no, .no, .no, .no, .no]) (c := wd) (x :: r) ?_ rfl fun w hw => ?_
    · generalize (x :: r).map wd = W
      simp
    · have e1 := is_net_eq (n := n) (w := w) hn6
      rw [nets_net n hn w (h w hw)] at e1
      revert e1
      generalize wd w = ww
      generalize ((n : Nat) : Int) = ni
      intro e1
      simp [e1]
  have c7 : allG [.lst (((x :: r).map fun _ => true).map D.bl)] = some (.inl (.bl true)) := by
    rw [allG_bl, List.all_map]
    refine congrArg (fun z => some (Sum.inl (D.bl z))) ?_
    rw [List.all_eq_true]; intro _ _; rfl
  have hr := rng_lit ((x :: r).length - 1) (by omega)
  have hc : ((((x :: r).map wd).length : Nat) : Int) - 1 = (((x :: r).length - 1 : Nat) : Int) := by rw [List.length_map, List.length_cons]; omega
  have hw : isWay a b (x :: r) = (decide (x = a) && (decide (y = b) && chainN (x :: r))) := by
    unfold isWay
    rw [show (x :: r).head? = some x from rfl]
    rw [show (x :: r).getLast? = some y by rw [e]; simp]
    simp
  rw [hw]
  refine im_main (hd' := wd x) (ld := wd y) (bb := ((x :: r).map fun _ => true).map D.bl) (rr := nl (List.range ((x :: r).length - 1))) ((eq_nil _).trans (by simp)) (d_ixL (k := 0) rfl) (by rw [e]; exact ix_last l y) ?_ ?_ c6 c7 (by rw [hc]; exact hr) (im_loop fun w hw => nets_sub (h w hw))
  · rw [ne_wd]; simp
  · rw [ne_wd]; simp
theorem imw_no {ni : Int} {ad bd V : D} (h : isaG "list" V = some (.inl (.bl false))) : f_is_move_way [.int ni, ad, bd, V] = .ret (.bl false) none := by
  refine def_ret rfl ?_
  show ∃ ρ, B_is_move_way [.va (.int ni), .va ad, .va bd, .va V, .no, .no, .no, .no, .no] = .ret _ ρ
  unfold B_is_move_way
  simp [h]
theorem imw_nil {ni : Int} {ad bd : D} : f_is_move_way [.int ni, ad, bd, .lst []] = .ret (.bl false) none := by
  refine def_ret rfl ?_
  show ∃ ρ, B_is_move_way [.va (.int ni), .va ad, .va bd, .va (.lst []), .no, .no, .no, .no, .no] = .ret _ ρ
  have e0 : isaG "list" (.lst []) = some (.inl (.bl true)) := rfl
  have e1 := eq_nilD []
  unfold B_is_move_way
  simp [e0, e1]
theorem imw_head {ni : Int} {bd x : D} {a : Wd} {W : List D} (h : eqv x (wd a) = false) : f_is_move_way [.int ni, wd a, bd, .lst (x :: W)] = .ret (.bl false) none := by
  refine def_ret rfl ?_
  show ∃ ρ, B_is_move_way [.va (.int ni), .va (wd a), .va bd, .va (.lst (x :: W)), .no, .no, .no, .no, .no] = .ret _ ρ
  have e0 : isaG "list" (.lst (x :: W)) = some (.inl (.bl true)) := rfl
  have e1 : cmpB .Eq (.lst (x :: W)) (.lst []) = some false := eq_nilD (x :: W)
  have e2 : ixG (.lst (x :: W)) (.int 0) = some (.inl x) := d_ixL (k := 0) rfl
  have e4 : cmpB .NotEq x (wd a) = some true := by rw [ne_any, h]; rfl
  revert e4
  generalize wd a = ad
  intro e4
  unfold B_is_move_way
  simp [e0, e1, e2, e4]
/-- a list with None in it -/
theorem is_net_non {ni : Int} : f_is_net [.int ni, .non] = .ret (.bl false) none := by
  refine def_ret rfl ?_
  show ∃ ρ, B_is_net [.va (.int ni), .va .non, .no] = .ret _ ρ
  have e0 : isaG "tuple" .non = some (.inl (.bl false)) := rfl
  unfold B_is_net
  simp [e0]
theorem ix_lastD (l : List D) (x : D) : ixG (.lst (l ++ [x])) (.int (-1)) = some (.inl x) := by
  show (atI _ (-1)).map _ = _
  have h : atI (l ++ [x]) (-1) = some x := by
    unfold atI ixN
    rw [List.length_append]
    simp
    rw [if_pos (by omega)]
    simp only [Option.bind_some]
    rw [show (-1 + (((l.length : Nat) : Int) + 1)).toNat = l.length by omega, List.getElem?_append_right (by omega), Nat.sub_self]
    rfl
  rw [h]; rfl
theorem im_main2 {ni : Int} {ad bd hd' ld : D} {W bb : List D} (e1 : cmpB .Eq (.lst W) (.lst []) = some false) (e2 : ixG (.lst W) (.int 0) = some (.inl hd')) (e3 : ixG (.lst W) (.int (-1)) = some (.inl ld)) (e4 : cmpB .NotEq hd' ad = some false) (e5 : cmpB .NotEq ld bd = some false)
    (e6 : C_is_move_way_1 [.va (.int ni), .no, .no, .va (.lst W), .no, .no, .no, .no, .no] = .ok (bb, [.va (.int ni), .no, .no, .va (.lst W), .no, .no, .no, .no, .no])) (e7 : allG [.lst bb] = some (.inl (.bl false))) :
    ∃ ρ, B_is_move_way [.va (.int ni), .va ad, .va bd, .va (.lst W), .no, .no, .no, .no, .no] = .ret (.bl false) ρ := by
  have e0 : isaG "list" (.lst W) = some (.inl (.bl true)) := rfl
  unfold B_is_move_way
  simp [e0, e1, e2, e3, e4, e5, negG, e6, e7]
theorem imw_mid {n : Nat} {a b : Wd} {us vs : List Wd} (hn : n ∈ [2, 3, 4]) (hu : ∀ w ∈ us, w ∈ nets n) (hv : ∀ w ∈ vs, w ∈ nets n) (h1 : vs ≠ []) (ha : us.head? = some a) (hb : vs.getLast? = some b) :
    f_is_move_way [.int ((n : Nat) : Int), wd a, wd b, .lst (us.map wd ++ .non :: vs.map wd)] = .ret (.bl false) none := by
  have hn6 : n ≤ 6 := by
    have : n = 2 ∨ n = 3 ∨ n = 4 := by simpa using hn
    omega
  refine def_ret rfl ?_
  show ∃ ρ, B_is_move_way [.va (.int ((n : Nat) : Int)), .va (wd a), .va (wd b), .va (.lst (us.map wd ++ .non :: vs.map wd)), .no, .no, .no, .no, .no] = .ret _ ρ
  have eW : us.map wd ++ D.non :: vs.map wd = (us.map some ++ none :: vs.map some).map oD := by
    rw [List.map_append, List.map_cons, List.map_map, List.map_map]; rfl
  have c6 : C_is_move_way_1 [.va (.int ((n : Nat) : Int)), .no, .no, .va (.lst (us.map wd ++ .non :: vs.map wd)), .no, .no, .no, .no, .no] = .ok (((us.map some ++ none :: vs.map some).map fun o : Option Wd => o.isSome).map D.bl, [.va (.int ((n : Nat) : Int)), .no, .no, .va (.lst (us.map wd ++ .non :: vs.map wd)), .no, .no, .no, .no, .no]) := by
    rw [eW, List.map_map]
    unfold C_is_move_way_1
    refine lcVa (ρ := [.va (.int ((n : Nat) : Int)), .no, .no, .va (.lst ((us.map some ++ none :: vs.map some).map oD)), .no, .no, .no, .no, .no]) (c := oD) (us.map some ++ none :: vs.map some) ?_ rfl fun o ho => ?_
    · generalize (us.map some ++ none :: vs.map some).map oD = W
      simp
    · generalize (us.map some ++ none :: vs.map some).map oD = W
      cases o with
      | none =>
        have e1 := is_net_non (ni := ((n : Nat) : Int))
        revert e1
        show f_is_net [_, oD none] = _ → _
        generalize oD none = ww
        generalize ((n : Nat) : Int) = ni
        intro e1
        simp [e1]
      | some w =>
        have hw : w ∈ nets n := by
          rcases List.mem_append.mp ho with h | h
          · obtain ⟨v, h2, e⟩ := List.mem_map.mp h
            exact Option.some.inj e ▸ hu v h2
          · rcases List.mem_cons.mp h with h | h
            · cases h
            · obtain ⟨v, h2, e⟩ := List.mem_map.mp h
              exact Option.some.inj e ▸ hv v h2
        have e1 := is_net_eq (n := n) (w := w) hn6
        rw [nets_net n hn w hw] at e1
        revert e1
        show f_is_net [_, oD (some w)] = _ → _
        generalize oD (some w) = ww
        generalize ((n : Nat) : Int) = ni
        intro e1
        simp [e1]
  have c7 : allG [.lst (((us.map some ++ none :: vs.map some).map fun o : Option Wd => o.isSome).map D.bl)] = some (.inl (.bl false)) := by
    rw [allG_bl]
    refine congrArg (fun z => some (Sum.inl (D.bl z))) ?_
    rw [List.all_map, List.all_append, List.all_cons]
    simp
  obtain ⟨r, rfl⟩ : ∃ r, us = a :: r := by
    cases us with
    | nil => cases ha
    | cons x r => exact ⟨r, by rw [Option.some.inj ha]⟩
  obtain ⟨l, rfl⟩ : ∃ l, vs = l ++ [b] := by
    refine ⟨vs.dropLast, ?_⟩
    have e := (List.dropLast_concat_getLast h1).symm
    rw [List.getLast?_eq_some_getLast h1] at hb
    rw [Option.some.inj hb] at e
    exact e
  have e3 : ixG (.lst ((a :: r).map wd ++ .non :: (l ++ [b]).map wd)) (.int (-1)) = some (.inl (wd b)) := by
    have := ix_lastD ((a :: r).map wd ++ .non :: l.map wd) (wd b)
    rw [List.append_assoc] at this
    rw [List.map_append]
    exact this
  refine im_main2 (hd' := wd a) (ld := wd b) (eq_nilD _) (d_ixL (k := 0) rfl) e3 ?_ ?_ c6 c7
  · rw [ne_wd]; simp
  · rw [ne_wd]; simp
end MP

namespace MP
open PySem PySem.Spec PyProof.Rows L2
open PySem.W (Datum DatumOrd Tup)
open Cd (en)

/-! ### the law's turn over the odd values -/
/-- slots: 2 many, 3 nets, 4 first, 5 second, 6 way, 9 odd, 11 value -/
def oS0 (s0 : Sl) (ni : Int) (N a b W : D) (V x9 : Sl) : Store := [s0, .no, .va (.int ni), .va N, .va a, .va b, .va W, .no, .no, x9, .no, V, .no, .no, .no, .no, .no]
theorem same_bl (q : Bool) : f__law_same [.bl q, .bl q] = .ret (.bl true) none := law_same_eq rfl
section
variable {s0 x9 : Sl} {ni : Int} {N a b W V : D}
theorem odd_1 (h1 : f_is_move_way [.int ni, a, b, V] = .ret (.bl false) none) (h : isaG "list" V = some (.inl (.bl false))) : W_law_1 (oS0 s0 ni N a b W (.va V) x9) = .next (oS0 s0 ni N a b W .no .no) := by
  have e := same_bl false
  unfold W_law_1 oS0
  simp [h, h1, e]
theorem odd_2 (h1 : f_is_move_way [.int ni, a, b, V] = .ret (.bl false) none) (h : isaG "list" V = some (.inl (.bl true))) (h2 : cmpB .NotEq V (.lst []) = some false) : W_law_1 (oS0 s0 ni N a b W (.va V) x9) = .next (oS0 s0 ni N a b W .no .no) := by
  have e := same_bl false
  unfold W_law_1 oS0
  simp [h, h1, h2, e]
theorem odd_3 {x : D} (h1 : f_is_move_way [.int ni, a, b, V] = .ret (.bl false) none) (h : isaG "list" V = some (.inl (.bl true))) (h2 : cmpB .NotEq V (.lst []) = some true) (h3 : ixG V (.int 0) = some (.inl x)) (h4 : cmpB .Eq x a = some false) :
    W_law_1 (oS0 s0 ni N a b W (.va V) x9) = .next (oS0 s0 ni N a b W .no .no) := by
  have e := same_bl false
  unfold W_law_1 oS0
  simp [h, h1, h2, h3, h4, e]
theorem odd_4 {x y : D} (h1 : f_is_move_way [.int ni, a, b, V] = .ret (.bl false) none) (h : isaG "list" V = some (.inl (.bl true))) (h2 : cmpB .NotEq V (.lst []) = some true) (h3 : ixG V (.int 0) = some (.inl x)) (h4 : cmpB .Eq x a = some true) (h5 : ixG V (.int (-1)) = some (.inl y)) (h6 : cmpB .Eq y b = some false) :
    W_law_1 (oS0 s0 ni N a b W (.va V) x9) = .next (oS0 s0 ni N a b W .no .no) := by
  have e := same_bl false
  unfold W_law_1 oS0
  simp [h, h1, h2, h3, h4, h5, h6, e, negG]
/-- slots after the first answer -/
def oS2 (s0 : Sl) (ni : Int) (N a b W : D) (V x9 : Sl) (q : Bool) : Store := [s0, .no, .va (.int ni), .va N, .va a, .va b, .va W, .no, .no, x9, .no, V, .va (.bl q), .no, .no, .no, .no]
theorem odd_5 {x y : D} {L3 : List D} (h1 : f_is_move_way [.int ni, a, b, V] = .ret (.bl false) none) (h : isaG "list" V = some (.inl (.bl true))) (h2 : cmpB .NotEq V (.lst []) = some true) (h3 : ixG V (.int 0) = some (.inl x)) (h4 : cmpB .Eq x a = some true) (h5 : ixG V (.int (-1)) = some (.inl y)) (h6 : cmpB .Eq y b = some true)
    (h7 : C_law_3 (oS2 s0 ni N a b W (.va V) x9 true) = .ok (L3, oS2 s0 ni N a b W (.va V) x9 true)) (h8 : cmpB .Eq (.lst L3) (.lst []) = some false) :
    W_law_1 (oS0 s0 ni N a b W (.va V) x9) = .next (oS0 s0 ni N a b W .no .no) := by
  have e := same_bl false
  unfold oS2 at h7
  unfold W_law_1 oS0
  simp [h, h1, h2, h3, h4, h5, h6, h7, h8, e, negG]
theorem odd_6 {x y : D} {L4 : List D} {q : Bool} (h1 : f_is_move_way [.int ni, a, b, V] = .ret (.bl q) none) (h : isaG "list" V = some (.inl (.bl true))) (h2 : cmpB .NotEq V (.lst []) = some true) (h3 : ixG V (.int 0) = some (.inl x)) (h4 : cmpB .Eq x a = some true) (h5 : ixG V (.int (-1)) = some (.inl y)) (h6 : cmpB .Eq y b = some true)
    (h7 : C_law_3 (oS2 s0 ni N a b W (.va V) x9 true) = .ok ([], oS2 s0 ni N a b W (.va V) x9 true)) (h9 : C_law_4 (oS2 s0 ni N a b W (.va V) x9 true) = .ok (L4, oS2 s0 ni N a b W (.va V) x9 true)) (h10 : cmpB .Eq (.lst L4) (.lst []) = some q) :
    W_law_1 (oS0 s0 ni N a b W (.va V) x9) = .next (oS0 s0 ni N a b W .no .no) := by
  have e := same_bl q
  have h8 : cmpB .Eq (.lst []) (.lst []) = some true := eq_nilD []
  unfold oS2 at h7 h9
  unfold W_law_1 oS0
  simp [h, h1, h2, h3, h4, h5, h6, h7, h8, h9, h10, e, negG]
end
end MP

namespace MP
open PySem PySem.Spec PyProof.Rows L2
open PySem.W (Datum DatumOrd Tup)
open Cd (en)

/-! ### the two comprehensions of the law's turn -/
theorem eqv_to_non : ∀ l : List Wd, ((l.map wd).any fun y => eqv y .non) = false
  | [] => rfl
  | w :: l => by
    rw [List.map_cons, List.any_cons, eqv_to_non l, Bool.or_false]
    unfold eqv wd
    rw [toPy, toPy, PyData.eqv]
theorem nin_non (l : List Wd) : cmpB .NotIn .non (.lst (l.map wd)) = some true := by
  show ((lsOf (.lst (l.map wd))).bind fun xs => if shp .non = true then some (xs.any fun y => eqv y .non) else none).map (!·) = _
  show (if shp .non = true then some ((l.map wd).any fun y => eqv y .non) else none).map (!·) = _
  rw [if_pos (by kernel_rfl), eqv_to_non]; rfl
section
variable {s0 x9 : Sl} {ni : Int} {n : Nat} {a b W : D}
def ndN (n : Nat) : Option Wd → Bool
  | none => true
  | some w => decide (w ∉ nets n)
theorem c3_eq {xs : List (Option Wd)} {q : Bool} : C_law_3 (oS2 s0 ni (.lst ((nets n).map wd)) a b W (.va (.lst (xs.map oD))) x9 q) = .ok ((xs.filter (ndN n)).map oD, oS2 s0 ni (.lst ((nets n).map wd)) a b W (.va (.lst (xs.map oD))) x9 q) := by
  unfold C_law_3
  refine lcV (c := oD) xs ?_ rfl fun o ho => ?_
  · unfold oS2
    generalize xs.map oD = V
    generalize (nets n).map wd = N
    simp
  · have e : cmpB .NotIn (oD o) (.lst ((nets n).map wd)) = some (ndN n o) := by
      cases o with
      | none => exact nin_non _
      | some w => exact nin_wd w _
    unfold oS2
    revert e
    generalize xs.map oD = V
    generalize (nets n).map wd = N
    generalize oD o = oo
    generalize ndN n o = p
    intro e
    simp [e]
theorem c4_eq {ws : List Wd} {N : D} {q : Bool} (h : ∀ w ∈ ws, w ∈ allW) (h0 : ws ≠ []) (hl : ws.length ≤ 1000) : C_law_4 (oS2 s0 ni N a b W (.va (.lst (ws.map wd))) x9 q) = .ok (((List.range (ws.length - 1)).filter fun k => !okK ws k).map (fun k => D.int ((k : Nat) : Int)), oS2 s0 ni N a b W (.va (.lst (ws.map wd))) x9 q) := by
  have hr := rng_lit (ws.length - 1) (by omega)
  have hc : (((ws.map wd).length : Nat) : Int) - 1 = ((ws.length - 1 : Nat) : Int) := by
    have : ws.length ≠ 0 := fun z => h0 (List.length_eq_zero_iff.mp z)
    rw [List.length_map]; omega
  unfold C_law_4
  refine lcV (c := fun k : Nat => D.int (k : Int)) (List.range (ws.length - 1)) ?_ rfl fun k hk => ?_
  · rw [← hc] at hr
    have el : lenG [.lst (ws.map wd)] = some (.inl (.int ((ws.map wd).length : Int))) := rfl
    unfold oS2
    revert hr el
    generalize (List.range (ws.length - 1)).map (fun k => D.int ((k : Nat) : Int)) = rr
    generalize ((ws.map wd).length : Int) = li
    generalize ws.map wd = V
    intro hr el
    simp [hr, el]
  · have hk := List.mem_range.mp hk
    have g1 : ws[k]? = some (ws.getD k []) := by rw [List.getD_eq_getElem?_getD, List.getElem?_eq_getElem (by omega)]; rfl
    have g2 : ws[k + 1]? = some (ws.getD (k + 1) []) := by rw [List.getD_eq_getElem?_getD, List.getElem?_eq_getElem (by omega)]; rfl
    have i1 := d_ixL (xs := ws.map wd) (k := k) (d := wd (ws.getD k [])) (by rw [List.getElem?_map, g1]; rfl)
    have i2 : ixG (.lst (ws.map wd)) (.int (((k : Nat) : Int) + 1)) = some (.inl (wd (ws.getD (k + 1) []))) := d_ixL (k := k + 1) (by rw [List.getElem?_map, g2]; rfl)
    have ln := lnear_t (ws.getD k []) (h _ (List.mem_of_getElem? g1))
    have en' := nin_wd (ws.getD (k + 1) []) (nbr (ws.getD k []))
    have ep : decide (ws.getD (k + 1) [] ∉ nbr (ws.getD k [])) = !okK ws k := by unfold okK; simp
    rw [ep] at en'
    unfold oS2
    revert i1 i2 ln en'
    generalize okK ws k = p
    generalize ws.map wd = V
    generalize (nbr (ws.getD k [])).map wd = nn
    generalize wd (ws.getD k []) = w1
    generalize wd (ws.getD (k + 1) []) = w2
    generalize ((k : Nat) : Int) = ki
    intro i1 i2 ln en'
    simp [i1, i2, ln, en']
end
end MP

namespace MP
open PySem PySem.Spec PyProof.Rows L2
open PySem.W (Datum DatumOrd Tup)
open Cd (en)

/-! ### every odd value -/
def Turn (n : Nat) (a b : Wd) (W V : D) : Prop := ∀ s0 x9, W_law_1 (oS0 s0 ((n : Nat) : Int) (.lst ((nets n).map wd)) (wd a) (wd b) W (.va V) x9) = .next (oS0 s0 ((n : Nat) : Int) (.lst ((nets n).map wd)) (wd a) (wd b) W .no .no)
section
variable {n : Nat} {a b : Wd} {W : D}
theorem turn_way {ws : List Wd} (hn : n ∈ [2, 3, 4]) (h0 : ws ≠ []) (h : ∀ w ∈ ws, w ∈ nets n) (hl : ws.length ≤ 1000) : Turn n a b W (.lst (ws.map wd)) := fun s0 x9 => by
  have e1 := imw_way (a := a) (b := b) hn h0 h hl
  have e2 : isaG "list" (.lst (ws.map wd)) = some (.inl (.bl true)) := rfl
  have e3 : cmpB .NotEq (.lst (ws.map wd)) (.lst []) = some true := by rw [ne_nil]; simp [h0]
  obtain ⟨l, y, ey⟩ : ∃ l y, ws = l ++ [y] := ⟨_, _, (List.dropLast_concat_getLast h0).symm⟩
  obtain ⟨x, r, ex⟩ : ∃ x r, ws = x :: r := by
    cases ws with
    | nil => exact absurd rfl h0
    | cons x r => exact ⟨x, r, rfl⟩
  have i1 : ixG (.lst (ws.map wd)) (.int 0) = some (.inl (wd x)) := by rw [ex]; exact d_ixL (k := 0) rfl
  have i2 : ixG (.lst (ws.map wd)) (.int (-1)) = some (.inl (wd y)) := by rw [ey]; exact ix_last l y
  have hw : isWay a b ws = (decide (x = a) && (decide (y = b) && chainN ws)) := by
    unfold isWay
    rw [show ws.head? = some x by rw [ex]; rfl, show ws.getLast? = some y by rw [ey]; simp]
    simp
  rw [hw] at e1
  have q1 := eq_wd x a
  have q2 := eq_wd y b
  by_cases hx : x = a
  · by_cases hy : y = b
    · simp only [hx, hy, decide_true, Bool.true_and] at e1 q1 q2
      have c3 := c3_eq (s0 := s0) (x9 := x9) (ni := ((n : Nat) : Int)) (n := n) (a := wd a) (b := wd b) (W := W) (xs := ws.map some) (q := true)
      have f3 : (ws.map some).filter (ndN n) = [] := by
        rw [List.filter_eq_nil_iff]
        intro o ho
        obtain ⟨w, hw, rfl⟩ := List.mem_map.mp ho
        show ¬ decide (w ∉ nets n) = true
        simpa using h w hw
      rw [f3, show (ws.map some).map oD = ws.map wd by rw [List.map_map]; rfl] at c3
      have c4 := c4_eq (s0 := s0) (x9 := x9) (ni := ((n : Nat) : Int)) (a := wd a) (b := wd b) (W := W) (N := .lst ((nets n).map wd)) (q := true) (fun w hw => nets_sub (h w hw)) h0 hl
      refine odd_6 (q := chainN ws) e1 e2 e3 i1 (by rw [hx]; exact q1) i2 (by rw [hy]; exact q2) c3 c4 ?_
      rw [eq_nilD, ← chain_all]
      refine congrArg some ?_
      rw [Bool.eq_iff_iff, List.isEmpty_iff, List.map_eq_nil_iff, List.filter_eq_nil_iff, List.all_eq_true]
      simp
    · simp only [hy, decide_false, Bool.false_and, Bool.and_false] at e1 q2
      exact odd_4 e1 e2 e3 i1 (by rw [q1]; simp [hx]) i2 q2
  · simp only [hx, decide_false, Bool.false_and] at e1 q1
    exact odd_3 e1 e2 e3 i1 q1
theorem turn_nil : Turn n a b W (.lst []) := fun s0 x9 => odd_2 imw_nil rfl (ne_nilD [])
theorem turn_tup (V : List D) : Turn n a b W (.tup V) := fun s0 x9 => odd_1 (imw_no rfl) rfl
theorem turn_non : Turn n a b W .non := fun s0 x9 => odd_1 (imw_no rfl) rfl
theorem turn_head {x : D} {V : List D} (h : eqv x (wd a) = false) : Turn n a b W (.lst (x :: V)) := fun s0 x9 =>
  odd_3 (imw_head h) rfl (ne_nilD _) (d_ixL (k := 0) rfl) (by rw [eq_any, h])
theorem turn_mid {us vs : List Wd} (hn : n ∈ [2, 3, 4]) (hu : ∀ w ∈ us, w ∈ nets n) (hv : ∀ w ∈ vs, w ∈ nets n) (h1 : vs ≠ []) (ha : us = [] ∨ us.head? = some a) (hb : vs.getLast? = some b) : Turn n a b W (.lst (us.map wd ++ .non :: vs.map wd)) := by
  rcases ha with rfl | ha
  · exact turn_head (eqv_non a)
  · intro s0 x9
    have e1 := imw_mid hn hu hv h1 ha hb
    have eW : us.map wd ++ D.non :: vs.map wd = (us.map some ++ none :: vs.map some).map oD := by
      rw [List.map_append, List.map_cons, List.map_map, List.map_map]; rfl
    obtain ⟨r, er⟩ : ∃ r, us = a :: r := by
      cases us with
      | nil => cases ha
      | cons x r => exact ⟨r, by rw [Option.some.inj ha]⟩
    obtain ⟨l, el⟩ : ∃ l, vs = l ++ [b] := by
      refine ⟨vs.dropLast, ?_⟩
      have e := (List.dropLast_concat_getLast h1).symm
      rw [List.getLast?_eq_some_getLast h1] at hb
      rw [Option.some.inj hb] at e
      exact e
    have i1 : ixG (.lst (us.map wd ++ .non :: vs.map wd)) (.int 0) = some (.inl (wd a)) := by rw [er]; exact d_ixL (k := 0) rfl
    have i2 : ixG (.lst (us.map wd ++ .non :: vs.map wd)) (.int (-1)) = some (.inl (wd b)) := by
      have := ix_lastD (us.map wd ++ .non :: l.map wd) (wd b)
      rw [List.append_assoc] at this
      rw [el, List.map_append]
      exact this
    have c3 := c3_eq (s0 := s0) (x9 := x9) (ni := ((n : Nat) : Int)) (n := n) (a := wd a) (b := wd b) (W := W) (xs := us.map some ++ none :: vs.map some) (q := true)
    rw [← eW] at c3
    refine odd_5 e1 rfl ((ne_nilD _).trans (by rw [er]; rfl)) i1 (by rw [eq_wd]; simp) i2 (by rw [eq_wd]; simp) c3 ?_
    rw [eq_nilD]
    refine congrArg some ?_
    rw [List.filter_append, List.filter_cons_of_pos rfl, List.map_append, List.map_cons]
    cases ((us.map some).filter (ndN n)).map oD <;> rfl
theorem turns {s0 : Sl} : ∀ (Vs : List D), (∀ V ∈ Vs, Turn n a b W V) → ∀ x9, ∃ x9', forL (gNm 11) W_law_1 Vs (oS0 s0 ((n : Nat) : Int) (.lst ((nets n).map wd)) (wd a) (wd b) W .no x9) = .next (oS0 s0 ((n : Nat) : Int) (.lst ((nets n).map wd)) (wd a) (wd b) W .no x9')
  | [], _, x9 => ⟨x9, rfl⟩
  | V :: Vs, h, x9 => by
    obtain ⟨x9', e⟩ := turns Vs (fun U hU => h U (List.mem_cons_of_mem _ hU)) .no
    refine ⟨x9', ?_⟩
    have e1 : gNm 11 V (oS0 s0 ((n : Nat) : Int) (.lst ((nets n).map wd)) (wd a) (wd b) W .no x9) = .ok (oS0 s0 ((n : Nat) : Int) (.lst ((nets n).map wd)) (wd a) (wd b) W (.va V) x9) := rfl
    rw [forL, e1, R.thenS_ok, h V List.mem_cons_self s0 x9]
    exact e
end
end MP

namespace MP
open PySem PySem.Spec PyProof.Rows L2
open PySem.W (Datum DatumOrd Tup)
open Cd (en)

/-! ### the law's statements -/
def P_law_1 : Es :=
  (sSetM 1 (nw (dspF (xCons (mz (lsSc 0)) (xCons (mz (pl (cst (.int 0)))) (xCons (mz (pl (cst (.int 0)))) (xCons (mz (pl (cst (.int 78)))) xNil)))))))
def P_law_2 : Es :=
  (sSetM 2 (op2M addG (vo (mz (pl (cst (.int 2))))) (vo (mz (pl (eCall (some 0) f__law_next (aCons (pk 1) (aCons (vo (mz (pl (cst (.int 3))))) xNil))))))))
def P_law_3 : Es :=
  (sSetM 3 (pl (eCall none f_all_nets (aCons (vo (mz (pl (rd 2)))) (aCons (vo (mz (pl (cst (.int 99))))) xNil)))))
def P_law_4 : Es :=
  (sPar [4, 5] [(op2M ixG (pk 3) (vo (mz (pl (eCall (some 0) f__law_next (aCons (pk 1) (aCons (vo (mz (opNM lenG (aCons (pk 3) xNil)))) xNil))))))), (op2M ixG (pk 3) (vo (mz (pl (eCall (some 0) f__law_next (aCons (pk 1) (aCons (vo (mz (opNM lenG (aCons (pk 3) xNil)))) xNil)))))))])
def P_law_5 : Es :=
  (sSetM 6 (pl (eCall none f_move_way (aCons (vo (mz (pl (rd 2)))) (aCons (vo (mz (pl (rd 4)))) (aCons (vo (mz (pl (rd 5)))) xNil))))))
def P_law_6 : Es :=
  (sCl [(4, false), (2, false), (3, false), (5, false), (6, false)] (sIf (tOrE (tbl (mz (op2M (blM (cmpB .NotEq)) (vo (mz (op2M ixG (pk 6) (vo (mz (pl (cst (.int 0)))))))) (pk 4)))) (tOrE (tbl (mz (op2M (blM (cmpB .NotEq)) (vo (mz (op2M ixG (pk 6) (vo (mz (op1M negG (vo (mz (pl (cst (.int 1))))))))))) (pk 5)))) (tbl (mz (op2M (blM (cmpB .NotEq)) (vo (mz (opNM lenG (aCons (pk 6) xNil)))) (vo (mz (op2M addG (vo (mz (pl (cst (.int 1))))) (vo (mz (pl (eCall none f__law_steps (aCons (vo (mz (pl (rd 4)))) (aCons (vo (mz (pl (rd 5)))) xNil)))))))))))))) (sRet (mz (pl (cst (.bl false))))) sSkip))
def P_law_7 : Es :=
  (sCl [(4, false), (2, false), (3, false), (5, false), (6, false)] (sIf (tOrE (tbl (mz (op2M (blM (cmpB .NotEq)) (vo (mz (nw C_law_1))) (vo (mz (nw (dspF xNil))))))) (tbl (mz (op2M (blM (cmpB .IsNot)) (vo (mz (pl (eCall none f_is_move_way (aCons (vo (mz (pl (rd 2)))) (aCons (vo (mz (pl (rd 4)))) (aCons (vo (mz (pl (rd 5)))) (aCons (vo (mz (pl (rd 6)))) xNil)))))))) (vo (mz (pl (cst (.bl true))))))))) (sRet (mz (pl (cst (.bl false))))) sSkip))
def P_law_8 : Es :=
  (sSetM 8 (pl (eCall (some 0) f__law_next (aCons (pk 1) (aCons (vo (mz (opNM lenG (aCons (pk 6) xNil)))) xNil)))))
def P_law_9 : Es :=
  (sSetM 9 (nw (dspF (xCons (mz (pl (rd 6))) (xCons (mz (op2M addG (vo (mz (slM (pk 6) pN (pS (pk 8))))) (vo (mz (slM (pk 6) (pS (vo (mz (op2M addG (pk 8) (vo (mz (pl (cst (.int 1))))))))) pN))))) (xCons (mz (op2M addG (pk 6) (vo (mz (slM (pk 6) (pS (vo (mz (op1M negG (vo (mz (pl (cst (.int 1))))))))) pN))))) (xCons (mz (op2M addG (vo (mz (op2M addG (vo (mz (slM (pk 6) pN (pS (pk 8))))) (vo (mz (nw (dspF (xCons (mz (op2M ixG (pk 3) (vo (mz (pl (eCall (some 0) f__law_next (aCons (pk 1) (aCons (vo (mz (opNM lenG (aCons (pk 3) xNil)))) xNil)))))))) xNil)))))))) (vo (mz (slM (pk 6) (pS (pk 8)) pN))))) (xCons (mz (opNM tupG (aCons (pk 6) xNil))) (xCons (mz (nw (dspF xNil))) (xCons (mz (pl (cst .non))) xNil))))))))))
def P_law_10 : Es :=
  (sSetM 9 (op2M addG (pk 9) (vo (mz (nw (dspF (xCons (mz (op2M addG (vo (mz (op2M addG (vo (mz (slM (pk 6) pN (pS (pk 8))))) (vo (mz (nw (dspF (xCons (mz (pl (cst .non))) xNil)))))))) (vo (mz (slM (pk 6) (pS (pk 8)) pN))))) (xCons (mz (op1M (revG true) (pk 6))) (xCons (mz (nw C_law_2)) xNil)))))))))
def P_law_11 : Es :=
  (sPre [(8, true), (4, false), (2, false), (3, false), (9, false), (12, true), (5, false), (1, true), (11, true), (6, false)] (sFor (itV (mz (pl (rd 9)))) (gNm 11) W_law_1))
def P_law_12 : Es :=
  (sSetM 13 (pl (eCall none f_move_way (aCons (vo (mz (pl (rd 2)))) (aCons (vo (mz (pl (rd 5)))) (aCons (vo (mz (pl (rd 4)))) xNil))))))
def P_law_13 : Es :=
  (sSetM 14 (op2M addG (vo (mz (slM (pk 4) (pS (vo (mz (pl (cst (.int 1)))))) pN))) (vo (mz (pl (dsp .tup (xCons (mz (pl (cst (.int 0)))) xNil)))))))
def P_law_14 : Es :=
  (sSetM 15 (nw (dspF (xCons (mz (op2M ixG (vo (mz (pl C_law_5))) (vo (mz (pl (cst (.int 0))))))) (xCons (mz (pl C_law_6)) xNil)))))
def P_law_15 : Es :=
  (sSetM 16 (nw (dspF (xCons (mz (eIfM (tst (vo (mz (pl (eCall none f_is_net (aCons (vo (mz (pl (rd 2)))) (aCons (vo (mz (pl (rd 14)))) xNil))))))) (pl (cst (.str (s_ "told")))) (pl (cst (.str (s_ "refused")))))) (xCons (mz (pl (dsp .tup (xCons (mz (pl (cst (.str (s_ "refused"))))) (xCons (mz (slM (pk 4) pN (pS (vo (mz (op1M negG (vo (mz (pl (cst (.int 1))))))))))) xNil))))) xNil)))))
def P_law_16 : Es :=
  (sRet (mz (pl (eAnd (mz (op2M (blM (cmpB .Eq)) (vo (mz (opNM lenG (aCons (pk 13) xNil)))) (vo (mz (opNM lenG (aCons (pk 6) xNil)))))) (mz (pl (eCall none f__law_same (aCons (vo (mz (pl (rd 15)))) (aCons (vo (mz (pl (rd 16)))) xNil)))))))))
theorem B_law_eq : B_law = (sSeq P_law_1 (sSeq P_law_2 (sSeq P_law_3 (sSeq P_law_4 (sSeq P_law_5 (sSeq P_law_6 (sSeq P_law_7 (sSeq P_law_8 (sSeq P_law_9 (sSeq P_law_10 (sSeq P_law_11 (sSeq P_law_12 (sSeq P_law_13 (sSeq P_law_14 (sSeq P_law_15 P_law_16))))))))))))))) := rfl
theorem seqN {a g : Es} {ρ ρ' : Store} (e : a ρ = .next ρ') : sSeq a g ρ = g ρ' := by show (a ρ).bind g = _; rw [e]; rfl
def tp78 (ns : List Int) : D := tapeD ns 0 0 78
theorem l_1 (ns : List Int) : P_law_1 (.sc ns :: List.replicate 16 .no) = .next [.sc ns, .ow (tp78 ns), .no, .no, .no, .no, .no, .no, .no, .no, .no, .no, .no, .no, .no, .no, .no] := rfl
theorem l_2 {s0 : Sl} {t t' : D} {r : Nat} (h : f__law_next [t, .int 3] = .ret (.int ((r : Nat) : Int)) (some t')) : P_law_2 [s0, .ow t, .no, .no, .no, .no, .no, .no, .no, .no, .no, .no, .no, .no, .no, .no, .no] = .next [s0, .ow t', .va (.int ((2 + r : Nat) : Int)), .no, .no, .no, .no, .no, .no, .no, .no, .no, .no, .no, .no, .no, .no] := by
  have e : ((2 + r : Nat) : Int) = 2 + ((r : Nat) : Int) := by omega
  rw [e]
  revert h
  generalize ((r : Nat) : Int) = ri
  intro h
  unfold P_law_2
  simp [h]
theorem l_3 {s0 : Sl} {t : D} {n : Nat} (h : n ∈ [2, 3, 4]) : P_law_3 [s0, .ow t, .va (.int ((n : Nat) : Int)), .no, .no, .no, .no, .no, .no, .no, .no, .no, .no, .no, .no, .no, .no] = .next [s0, .ow t, .va (.int ((n : Nat) : Int)), .va (.lst ((nets n).map wd)), .no, .no, .no, .no, .no, .no, .no, .no, .no, .no, .no, .no, .no] := by
  have e := all_nets_eq h
  revert e
  generalize (nets n).map wd = N
  generalize ((n : Nat) : Int) = ni
  intro e
  unfold P_law_3
  simp [e]
theorem l_4 {s0 : Sl} {t t1 t2 N a b : D} {ni li i j : Int} (el : lenG [N] = some (.inl (.int li))) (h1 : f__law_next [t, .int li] = .ret (.int i) (some t1)) (h2 : f__law_next [t1, .int li] = .ret (.int j) (some t2)) (i1 : ixG N (.int i) = some (.inl a)) (i2 : ixG N (.int j) = some (.inl b)) :
    P_law_4 [s0, .ow t, .va (.int ni), .va N, .no, .no, .no, .no, .no, .no, .no, .no, .no, .no, .no, .no, .no] = .next [s0, .ow t2, .va (.int ni), .va N, .va a, .va b, .no, .no, .no, .no, .no, .no, .no, .no, .no, .no, .no] := by
  unfold P_law_4
  simp [el, h1, h2, i1, i2, sPar]
theorem l_5 {s0 t : Sl} {N a b W : D} {ni : Int} (h : f_move_way [.int ni, a, b] = .ret W none) : P_law_5 [s0, t, .va (.int ni), .va N, .va a, .va b, .no, .no, .no, .no, .no, .no, .no, .no, .no, .no, .no] = .next [s0, t, .va (.int ni), .va N, .va a, .va b, .va W, .no, .no, .no, .no, .no, .no, .no, .no, .no, .no] := by
  unfold P_law_5
  simp [h]
theorem l_6 {s0 t : Sl} {N a b W x y : D} {ni li k : Int} (h1 : ixG W (.int 0) = some (.inl x)) (h2 : cmpB .NotEq x a = some false) (h3 : ixG W (.int (-1)) = some (.inl y)) (h4 : cmpB .NotEq y b = some false) (h5 : lenG [W] = some (.inl (.int li))) (h6 : f__law_steps [a, b] = .ret (.int k) none) (h7 : li = 1 + k) :
    P_law_6 [s0, t, .va (.int ni), .va N, .va a, .va b, .va W, .no, .no, .no, .no, .no, .no, .no, .no, .no, .no] = .next [s0, t, .va (.int ni), .va N, .va a, .va b, .va W, .no, .no, .no, .no, .no, .no, .no, .no, .no, .no] := by
  subst h7
  unfold P_law_6
  simp [h1, h2, h3, h4, h5, h6, negG]
theorem l_7 {s0 t : Sl} {N a b W : D} {ni : Int} (h1 : C_law_1 [s0, t, .va (.int ni), .va N, .va a, .va b, .va W, .no, .no, .no, .no, .no, .no, .no, .no, .no, .no] = .ok ([], [s0, t, .va (.int ni), .va N, .va a, .va b, .va W, .no, .no, .no, .no, .no, .no, .no, .no, .no, .no])) (h2 : f_is_move_way [.int ni, a, b, W] = .ret (.bl true) none) :
    P_law_7 [s0, t, .va (.int ni), .va N, .va a, .va b, .va W, .no, .no, .no, .no, .no, .no, .no, .no, .no, .no] = .next [s0, t, .va (.int ni), .va N, .va a, .va b, .va W, .no, .no, .no, .no, .no, .no, .no, .no, .no, .no] := by
  have h3 : cmpB .NotEq (.lst []) (.lst []) = some false := ne_nilD []
  have h4 : cmpB .IsNot (.bl true) (.bl true) = some false := rfl
  unfold P_law_7
  simp [h1, h2, h3, h4]
theorem l_8 {s0 : Sl} {t t1 N a b W : D} {ni li i : Int} (el : lenG [W] = some (.inl (.int li))) (h1 : f__law_next [t, .int li] = .ret (.int i) (some t1)) :
    P_law_8 [s0, .ow t, .va (.int ni), .va N, .va a, .va b, .va W, .no, .no, .no, .no, .no, .no, .no, .no, .no, .no] = .next [s0, .ow t1, .va (.int ni), .va N, .va a, .va b, .va W, .no, .va (.int i), .no, .no, .no, .no, .no, .no, .no, .no] := by
  unfold P_law_8
  simp [el, h1]
end MP

namespace MP
open PySem PySem.Spec PyProof.Rows L2
open PySem.W (Datum DatumOrd Tup)
open Cd (en)

/-! ### the odd values -/
theorem cut_take {α : Type} (xs : List α) (k : Nat) : cutL xs none (some (k : Int)) = xs.take k := by
  unfold cutL
  rw [HT.sIx_none, HT.sIx_nat]
  simp
theorem cut_drop {α : Type} (xs : List α) (k : Nat) : cutL xs (some (k : Int)) none = xs.drop k := by
  unfold cutL
  rw [HT.sIx_none, HT.sIx_nat]
  by_cases h : k ≤ xs.length
  · rw [Nat.min_eq_left h]; exact List.take_of_length_le (by rw [List.length_drop]; omega)
  · rw [Nat.min_eq_right (by omega), List.drop_eq_nil_of_le (Nat.le_refl _), List.drop_eq_nil_of_le (show xs.length ≤ k by omega), List.take_nil]
theorem cut_last {α : Type} (xs : List α) (x : α) : cutL (xs ++ [x]) (some (-1)) none = [x] := by
  unfold cutL
  have e1 : HT.sIx (xs ++ [x]).length 0 (some (-1)) = xs.length := by
    show (if (-1 : Int) < 0 then ((-1 : Int) + ((xs ++ [x]).length : Int)).toNat else min (-1 : Int).toNat (xs ++ [x]).length) = _
    rw [if_pos (by omega), List.length_append]
    show ((-1 : Int) + ((xs.length + 1 : Nat) : Int)).toNat = _
    omega
  have e2 : HT.sIx (xs ++ [x]).length (xs ++ [x]).length none = (xs ++ [x]).length := rfl
  rw [e1, e2]
  simp
theorem cut_init {α : Type} (xs : List α) (x : α) : cutL (xs ++ [x]) none (some (-1)) = xs := by
  unfold cutL
  have e1 : HT.sIx (xs ++ [x]).length (xs ++ [x]).length (some (-1)) = xs.length := by
    show (if (-1 : Int) < 0 then ((-1 : Int) + ((xs ++ [x]).length : Int)).toNat else min (-1 : Int).toNat (xs ++ [x]).length) = _
    rw [if_pos (by omega), List.length_append]
    show ((-1 : Int) + ((xs.length + 1 : Nat) : Int)).toNat = _
    omega
  have e2 : HT.sIx (xs ++ [x]).length 0 none = 0 := rfl
  rw [e1, e2]
  simp
theorem l_9 {s0 : Sl} {t t1 N a b x u : D} {ni li j : Int} {w w0 : List D} {k : Nat} (ew : w = w0 ++ [u]) (hl : w.length ≤ 1000) (el : lenG [N] = some (.inl (.int li))) (h1 : f__law_next [t, .int li] = .ret (.int j) (some t1)) (i1 : ixG N (.int j) = some (.inl x)) :
    P_law_9 [s0, .ow t, .va (.int ni), .va N, .va a, .va b, .va (.lst w), .no, .va (.int ((k : Nat) : Int)), .no, .no, .no, .no, .no, .no, .no, .no] =
      .next [s0, .ow t1, .va (.int ni), .va N, .va a, .va b, .va (.lst w), .no, .va (.int ((k : Nat) : Int)), .ow (.lst [.lst w, .lst (w.take k ++ w.drop (k + 1)), .lst (w ++ [u]), .lst (w.take k ++ [x] ++ w.drop k), .tup w, .lst [], .non]), .no, .no, .no, .no, .no, .no, .no] := by
  have s1 : slG none (some ((k : Nat) : Int)) (.lst w) = some (.inr (w.take k)) := congrArg (fun z => some (Sum.inr z)) (cut_take w k)
  have s2 : slG (some ((k : Nat) : Int)) none (.lst w) = some (.inr (w.drop k)) := congrArg (fun z => some (Sum.inr z)) (cut_drop w k)
  have s3 : slG (some (((k : Nat) : Int) + 1)) none (.lst w) = some (.inr (w.drop (k + 1))) := congrArg (fun z => some (Sum.inr z)) (cut_drop w (k + 1))
  have s4 : slG (some (-1)) none (.lst w) = some (.inr [u]) := by rw [ew]; exact congrArg (fun z => some (Sum.inr z)) (cut_last w0 u)
  have lt : (w.take k).length ≤ 1000 := Nat.le_trans (by rw [List.length_take]; exact Nat.min_le_right _ _) hl
  have ld : (w.drop k).length ≤ 1000 := Nat.le_trans (by rw [List.length_drop]; omega) hl
  have ld1 : (w.drop (k + 1)).length ≤ 1000 := Nat.le_trans (by rw [List.length_drop]; omega) hl
  have p1 : addG (.lst (w.take k)) (.lst (w.drop (k + 1))) = some (.inr (w.take k ++ w.drop (k + 1))) := add_l (by omega)
  have p2 : addG (.lst w) (.lst [u]) = some (.inr (w ++ [u])) := add_l (by show w.length + 1 ≤ _; omega)
  have p3 : addG (.lst (w.take k)) (.lst [x]) = some (.inr (w.take k ++ [x])) := add_l (by show (w.take k).length + 1 ≤ _; omega)
  have p4 : addG (.lst (w.take k ++ [x])) (.lst (w.drop k)) = some (.inr (w.take k ++ [x] ++ w.drop k)) := add_l (by rw [List.length_append]; show (w.take k).length + 1 + _ ≤ _; omega)
  have p5 : tupG [.lst w] = some (.inl (.tup w)) := rfl
  revert s1 s2 s3 s4 p1 p2 p3 p4
  generalize w.take k ++ [x] ++ w.drop k = v4
  generalize w.take k ++ [x] = v3
  generalize w ++ [u] = v2
  generalize w.take k ++ w.drop (k + 1) = v1
  generalize w.take k = q1
  generalize w.drop k = q2
  generalize w.drop (k + 1) = q3
  generalize ((k : Nat) : Int) = ki
  intro s1 s2 s3 s4 p1 p2 p3 p4
  unfold P_law_9
  simp [s1, s2, s3, s4, p1, p2, p3, p4, p5, el, h1, i1, negG]
theorem cl2 {s0 t x9 : Sl} {N a b : D} {ni : Int} {x8 : Sl} {ws : List Wd} : C_law_2 [s0, t, .va (.int ni), .va N, .va a, .va b, .va (.lst (ws.map wd)), .no, x8, x9, .no, .no, .no, .no, .no, .no, .no] = .ok (ws.map (fun w => D.lst (nl w)), [s0, t, .va (.int ni), .va N, .va a, .va b, .va (.lst (ws.map wd)), .no, x8, x9, .no, .no, .no, .no, .no, .no, .no]) := by
  unfold C_law_2
  refine lcVa (c := wd) ws ?_ rfl fun w hw => ?_
  · generalize ws.map wd = W
    simp
  · have e : listG [wd w] = some (.inr (nl w)) := rfl
    revert e
    generalize wd w = ww
    generalize nl w = l
    generalize ws.map wd = W
    intro e
    simp [e]
theorem l_10 {s0 : Sl} {t N a b : D} {ni : Int} {w o1 ll : List D} {k : Nat} (hl : w.length ≤ 1000) (ho : o1.length ≤ 1000)
    (c2 : C_law_2 [s0, .ow t, .va (.int ni), .va N, .va a, .va b, .va (.lst w), .no, .va (.int ((k : Nat) : Int)), .ow (.lst o1), .no, .no, .no, .no, .no, .no, .no] = .ok (ll, [s0, .ow t, .va (.int ni), .va N, .va a, .va b, .va (.lst w), .no, .va (.int ((k : Nat) : Int)), .ow (.lst o1), .no, .no, .no, .no, .no, .no, .no])) :
    P_law_10 [s0, .ow t, .va (.int ni), .va N, .va a, .va b, .va (.lst w), .no, .va (.int ((k : Nat) : Int)), .ow (.lst o1), .no, .no, .no, .no, .no, .no, .no] =
      .next [s0, .ow t, .va (.int ni), .va N, .va a, .va b, .va (.lst w), .no, .va (.int ((k : Nat) : Int)), .ow (.lst (o1 ++ [.lst (w.take k ++ [.non] ++ w.drop k), .lst w.reverse, .lst ll])), .no, .no, .no, .no, .no, .no, .no] := by
  have s1 : slG none (some ((k : Nat) : Int)) (.lst w) = some (.inr (w.take k)) := congrArg (fun z => some (Sum.inr z)) (cut_take w k)
  have s2 : slG (some ((k : Nat) : Int)) none (.lst w) = some (.inr (w.drop k)) := congrArg (fun z => some (Sum.inr z)) (cut_drop w k)
  have lt : (w.take k).length ≤ 1000 := Nat.le_trans (by rw [List.length_take]; exact Nat.min_le_right _ _) hl
  have ld : (w.drop k).length ≤ 1000 := Nat.le_trans (by rw [List.length_drop]; omega) hl
  have p3 : addG (.lst (w.take k)) (.lst [.non]) = some (.inr (w.take k ++ [.non])) := add_l (by show (w.take k).length + 1 ≤ _; omega)
  have p4 : addG (.lst (w.take k ++ [.non])) (.lst (w.drop k)) = some (.inr (w.take k ++ [.non] ++ w.drop k)) := add_l (by rw [List.length_append]; show (w.take k).length + 1 + _ ≤ _; omega)
  have p6 : revG true (.lst w) = some (.inr w.reverse) := rfl
  have p5 : addG (.lst o1) (.lst [.lst (w.take k ++ [.non] ++ w.drop k), .lst w.reverse, .lst ll]) = some (.inr (o1 ++ [.lst (w.take k ++ [.non] ++ w.drop k), .lst w.reverse, .lst ll])) := add_l (by show o1.length + 3 ≤ _; omega)
  revert s1 s2 p3 p4 p5 p6 c2
  generalize w.take k ++ [.non] ++ w.drop k = v4
  generalize w.take k ++ [.non] = v3
  generalize w.take k = q1
  generalize w.drop k = q2
  generalize w.reverse = wr
  generalize o1 ++ [.lst v4, .lst wr, .lst ll] = oo
  generalize ((k : Nat) : Int) = ki
  intro c2 s1 s2 p3 p4 p5 p6
  unfold P_law_10
  simp [s1, s2, p3, p4, p5, p6, c2]
end MP

namespace MP
open PySem PySem.Spec PyProof.Rows L2
open PySem.W (Datum DatumOrd Tup)
open Cd (en)

/-! ### the law's end -/
theorem l_11 {s0 : Sl} {n : Nat} {a b : Wd} {W x8 t : D} {Vs : List D} (h : ∀ V ∈ Vs, Turn n a b W V) : ∃ x9', P_law_11 [s0, .ow t, .va (.int ((n : Nat) : Int)), .va (.lst ((nets n).map wd)), .va (wd a), .va (wd b), .va W, .no, .va x8, .ow (.lst Vs), .no, .no, .no, .no, .no, .no, .no] = .next (oS0 s0 ((n : Nat) : Int) (.lst ((nets n).map wd)) (wd a) (wd b) W .no x9') := by
  obtain ⟨x9', e⟩ := turns (s0 := s0) Vs h (.va (.lst Vs))
  refine ⟨x9', ?_⟩
  revert e
  unfold oS0
  generalize (nets n).map wd = N
  generalize wd a = ad
  generalize wd b = bd
  generalize ((n : Nat) : Int) = ni
  intro e
  unfold P_law_11
  simp [e]
theorem l_12 {s0 x9 : Sl} {ni : Int} {N a b W B : D} (h : f_move_way [.int ni, b, a] = .ret B none) : P_law_12 (oS0 s0 ni N a b W .no x9) = .next [s0, .no, .va (.int ni), .va N, .va a, .va b, .va W, .no, .no, x9, .no, .no, .no, .va B, .no, .no, .no] := by
  unfold P_law_12 oS0
  simp [h]
theorem l_13 {s0 x9 : Sl} {ni : Int} {N b W B : D} {xs : List D} (hl : xs.length ≤ 100) : P_law_13 [s0, .no, .va (.int ni), .va N, .va (.tup xs), .va b, .va W, .no, .no, x9, .no, .no, .no, .va B, .no, .no, .no] = .next [s0, .no, .va (.int ni), .va N, .va (.tup xs), .va b, .va W, .no, .no, x9, .no, .no, .no, .va B, .va (.tup (xs.drop 1 ++ [.int 0])), .no, .no] := by
  have s1 : slG (some 1) none (.tup xs) = some (.inl (.tup (xs.drop 1))) := congrArg (fun z => some (Sum.inl (D.tup z))) (cut_drop xs 1)
  have p : addG (.tup (xs.drop 1)) (.tup [.int 0]) = some (.inl (.tup (xs.drop 1 ++ [.int 0]))) := by
    show (if room ((xs.drop 1).length + 1) = true then _ else _) = _
    rw [if_pos (room_of (by rw [List.length_drop]; omega))]
  revert s1 p
  generalize xs.drop 1 ++ [D.int 0] = ys
  generalize xs.drop 1 = zs
  intro s1 p
  unfold P_law_13
  simp [s1, p]
/-- the two questions -/
theorem l_14 {s0 x9 : Sl} {ni : Int} {N a b W B bad fm : D} {q : Bool} (h1 : if q = true then ∃ W', f_move_way [.int ni, bad, b] = .ret W' none else f_move_way [.int ni, bad, b] = .exc "InvalidTable" bad) (h2 : slG none (some (-1)) a = some (.inl fm)) (h3 : f_move_way [.int ni, a, fm] = .exc "InvalidTable" fm) (hs : ∃ ns, s0 = .sc ns) :
    P_law_14 [s0, .no, .va (.int ni), .va N, .va a, .va b, .va W, .no, .no, x9, .no, .no, .no, .va B, .va bad, .no, .no] = .next [s0, .no, .va (.int ni), .va N, .va a, .va b, .va W, .no, .no, x9, .no, .no, .no, .va B, .va bad, .ow (.lst [.str (if q = true then "told" else "refused"), .tup [.str "refused", fm]]), .no] := by
  obtain ⟨ns, rfl⟩ := hs
  have k1 : askP ak__law_asked "InvalidTable" = some "refused" := by kernel_rfl
  have k2 : PyData.strOk "refused" = true := by kernel_rfl
  have k3 : ("InvalidTable" : Str) ∈ erN := by decide +kernel
  unfold P_law_14 C_law_5 C_law_6
  cases q with
  | true =>
    obtain ⟨W', h1⟩ := h1
    simp [eAsk, h1, h2, h3, k1, k2, k3, vaS, negG]
  | false =>
    have h1 : f_move_way [.int ni, bad, b] = .exc "InvalidTable" bad := h1
    simp [eAsk, h1, h2, h3, k1, k2, k3, vaS, negG]
end MP

namespace MP
open PySem PySem.Spec PyProof.Rows L2
open PySem.W (Datum DatumOrd Tup)
open Cd (en)

theorem l_15 {s0 x9 : Sl} {ni : Int} {N a b W B bad fm t15 : D} {q : Bool} (h : f_is_net [.int ni, bad] = .ret (.bl q) none) (h2 : slG none (some (-1)) a = some (.inl fm)) :
    P_law_15 [s0, .no, .va (.int ni), .va N, .va a, .va b, .va W, .no, .no, x9, .no, .no, .no, .va B, .va bad, .ow t15, .no] = .next [s0, .no, .va (.int ni), .va N, .va a, .va b, .va W, .no, .no, x9, .no, .no, .no, .va B, .va bad, .ow t15, .ow (.lst [.str (if q = true then "told" else "refused"), .tup [.str "refused", fm]])] := by
  unfold P_law_15
  cases q <;> simp [h, h2, negG, s_]
theorem l_16 {s0 x9 : Sl} {ni lw : Int} {N a b W B bad : D} {td : List D} (h1 : lenG [B] = some (.inl (.int lw))) (h2 : lenG [W] = some (.inl (.int lw))) (h3 : f__law_same [.lst td, .lst td] = .ret (.bl true) none) :
    ∃ ρ, P_law_16 [s0, .no, .va (.int ni), .va N, .va a, .va b, .va W, .no, .no, x9, .no, .no, .no, .va B, .va bad, .ow (.lst td), .ow (.lst td)] = .ret (.bl true) ρ := by
  unfold P_law_16
  simp [h1, h2, h3]
theorem c1_eq {s0 t : Sl} {ni : Int} {a b N : D} {ws : List Wd} (h : ∀ w ∈ ws, w ∈ allW) (h0 : ws ≠ []) (hl : ws.length ≤ 1000) (hc0 : chainN ws = true) : C_law_1 [s0, t, .va (.int ni), .va N, .va a, .va b, .va (.lst (ws.map wd)), .no, .no, .no, .no, .no, .no, .no, .no, .no, .no] = .ok ([], [s0, t, .va (.int ni), .va N, .va a, .va b, .va (.lst (ws.map wd)), .no, .no, .no, .no, .no, .no, .no, .no, .no, .no]) := by
  have hr := rng_lit (ws.length - 1) (by omega)
  have hc : (((ws.map wd).length : Nat) : Int) - 1 = ((ws.length - 1 : Nat) : Int) := by
    have : ws.length ≠ 0 := fun z => h0 (List.length_eq_zero_iff.mp z)
    rw [List.length_map]; omega
  have f0 : (List.range (ws.length - 1)).filter (fun k => !okK ws k) = [] := by
    rw [← chain_all, List.all_eq_true] at hc0
    rw [List.filter_eq_nil_iff]
    intro k hk
    rw [hc0 k hk]; decide
  have main : C_law_1 [s0, t, .va (.int ni), .va N, .va a, .va b, .va (.lst (ws.map wd)), .no, .no, .no, .no, .no, .no, .no, .no, .no, .no] = .ok (((List.range (ws.length - 1)).filter fun k => !okK ws k).map (fun k => D.int ((k : Nat) : Int)), [s0, t, .va (.int ni), .va N, .va a, .va b, .va (.lst (ws.map wd)), .no, .no, .no, .no, .no, .no, .no, .no, .no, .no]) := by
    unfold C_law_1
    refine lcV (c := fun k : Nat => D.int (k : Int)) (List.range (ws.length - 1)) ?_ rfl fun k hk => ?_
    · rw [← hc] at hr
      have el : lenG [.lst (ws.map wd)] = some (.inl (.int ((ws.map wd).length : Int))) := rfl
      revert hr el
      generalize (List.range (ws.length - 1)).map (fun k => D.int ((k : Nat) : Int)) = rr
      generalize ((ws.map wd).length : Int) = li
      generalize ws.map wd = V
      intro hr el
      simp [hr, el]
    · have hk := List.mem_range.mp hk
      have g1 : ws[k]? = some (ws.getD k []) := by rw [List.getD_eq_getElem?_getD, List.getElem?_eq_getElem (by omega)]; rfl
      have g2 : ws[k + 1]? = some (ws.getD (k + 1) []) := by rw [List.getD_eq_getElem?_getD, List.getElem?_eq_getElem (by omega)]; rfl
      have i1 := d_ixL (xs := ws.map wd) (k := k) (d := wd (ws.getD k [])) (by rw [List.getElem?_map, g1]; rfl)
      have i2 : ixG (.lst (ws.map wd)) (.int (((k : Nat) : Int) + 1)) = some (.inl (wd (ws.getD (k + 1) []))) := d_ixL (k := k + 1) (by rw [List.getElem?_map, g2]; rfl)
      have ln := lnear_t (ws.getD k []) (h _ (List.mem_of_getElem? g1))
      have en' := nin_wd (ws.getD (k + 1) []) (nbr (ws.getD k []))
      have ep : decide (ws.getD (k + 1) [] ∉ nbr (ws.getD k [])) = !okK ws k := by unfold okK; simp
      rw [ep] at en'
      revert i1 i2 ln en'
      generalize okK ws k = p
      generalize ws.map wd = V
      generalize (nbr (ws.getD k [])).map wd = nn
      generalize wd (ws.getD k []) = w1
      generalize wd (ws.getD (k + 1) []) = w2
      generalize ((k : Nat) : Int) = ki
      intro i1 i2 ln en'
      simp [i1, i2, ln, en']
  rw [main, f0]; rfl
/-- move_way refuses -/
theorem mw_no1 {n : Nat} {w : Wd} {b : D} (hn : n ≤ 6) (h : isNet n w = false) : f_move_way [.int ((n : Nat) : Int), wd w, b] = .exc "InvalidTable" (wd w) := by
  have e := check_net_no hn h
  show (match B_move_way [.va (.int ((n : Nat) : Int)), .va (wd w), .va b, .no, .no, .no, .no, .no, .no, .no, .no, .no] with
    | .ret d ρ => outOf none d ρ
    | .next ρ => outOf none .non ρ
    | .exc c p => if (none : Option Nat) = none then .exc c p else .bad
    | _ => .bad) = _
  have e2 : B_move_way [.va (.int ((n : Nat) : Int)), .va (wd w), .va b, .no, .no, .no, .no, .no, .no, .no, .no, .no] = .exc "InvalidTable" (wd w) := by
    revert e
    generalize wd w = ww
    generalize ((n : Nat) : Int) = ni
    intro e
    unfold B_move_way
    simp [e]
  rw [e2]; rfl
theorem mw_no2 {n : Nat} {a w : Wd} (hn : n ≤ 6) (ha : isNet n a = true) (h : isNet n w = false) : f_move_way [.int ((n : Nat) : Int), wd a, wd w] = .exc "InvalidTable" (wd w) := by
  have e := check_net_no hn h
  have e0 := check_net_ok hn ha
  show (match B_move_way [.va (.int ((n : Nat) : Int)), .va (wd a), .va (wd w), .no, .no, .no, .no, .no, .no, .no, .no, .no] with
    | .ret d ρ => outOf none d ρ
    | .next ρ => outOf none .non ρ
    | .exc c p => if (none : Option Nat) = none then .exc c p else .bad
    | _ => .bad) = _
  have e2 : B_move_way [.va (.int ((n : Nat) : Int)), .va (wd a), .va (wd w), .no, .no, .no, .no, .no, .no, .no, .no, .no] = .exc "InvalidTable" (wd w) := by
    revert e e0
    generalize wd w = ww
    generalize wd a = aa
    generalize ((n : Nat) : Int) = ni
    intro e e0
    unfold B_move_way
    simp [e, e0]
  rw [e2]; rfl
end MP

namespace MP
open PySem PySem.Spec PyProof.Rows L2
open PySem.W (Datum DatumOrd Tup)
open Cd (en)

/-! ### the law -/
def badW (a : Wd) : Wd := a.drop 1 ++ [0]
theorem bad_in : ∀ n ∈ [2, 3, 4], ∀ a ∈ nets n, isNet n (badW a) = true → badW a ∈ nets n := by decide +kernel
theorem init_no : ∀ n ∈ [2, 3, 4], ∀ a ∈ nets n, isNet n a.dropLast = false ∧ a ≠ [] ∧ a.length ≤ 6 := by decide +kernel
theorem pairs_all {n : Nat} (hn : n ∈ [2, 3, 4]) {a b : Wd} (ha : a ∈ nets n) (hb : b ∈ nets n) : pairOk n a b = true := by
  have : n = 2 ∨ n = 3 ∨ n = 4 := by simpa using hn
  rcases this with e | e | e <;> subst e
  · exact pairs2 a ha b hb
  · exact pairs3 a ha b hb
  · exact pairs4 a ha b hb
theorem pair_of {n : Nat} {a b : Wd} (h : pairOk n a b = true) : ∃ ws us, moveN a b = some ws ∧ ws.head? = some a ∧ ws.getLast? = some b ∧ chainN ws = true ∧ (∀ w ∈ ws, w ∈ nets n) ∧ ws.length ≤ 20 ∧ runS b 40 [a] [a] 0 = some (ws.length - 1) ∧ moveN b a = some us ∧ us.length = ws.length := by
  unfold pairOk at h
  cases h1 : moveN a b with
  | none => rw [h1] at h; cases h
  | some ws =>
    rw [h1] at h
    cases h2 : moveN b a with
    | none => rw [h2] at h; simp at h
    | some us =>
      rw [h2] at h
      simp only [Bool.and_eq_true, decide_eq_true_eq, List.all_eq_true] at h
      obtain ⟨g1, g2, g3, g4, g5, g6, g7⟩ := h
      exact ⟨ws, us, rfl, g1, g2, g3, g4, g5, g6, rfl, g7⟩
theorem nets_len : ∀ n ∈ [2, 3, 4], 0 < (nets n).length ∧ (nets n).length ≤ 16 := by decide +kernel
theorem next_nat {t : D} (ht : TapeOk t) {m : Nat} (h0 : 0 < m) (h1 : m ≤ 1000) : ∃ (r : Nat) (t' : D), f__law_next [t, .int ((m : Nat) : Int)] = .ret (.int ((r : Nat) : Int)) (some t') ∧ TapeOk t' ∧ r < m := by
  obtain ⟨r, t', e, ht', g0, g1⟩ := law_next_eq ht (many := ((m : Nat) : Int)) (by omega) (by omega)
  refine ⟨r.toNat, t', ?_, ht', by omega⟩
  rw [show ((r.toNat : Nat) : Int) = r by omega]
  exact e
theorem sl_init {a : Wd} (h : a ≠ []) : slG none (some (-1)) (wd a) = some (.inl (wd a.dropLast)) := by
  obtain ⟨l, x, e⟩ : ∃ l x, a = l ++ [x] := ⟨_, _, (List.dropLast_concat_getLast h).symm⟩
  subst e
  have e1 : nl (l ++ [x]) = nl l ++ [.int ((x : Nat) : Int)] := by unfold nl; rw [List.map_append]; rfl
  show some (Sum.inl (D.tup (cutL (nl (l ++ [x])) none (some (-1))))) = _
  rw [e1, cut_init]
  simp [wd]
theorem bad_wd (a : Wd) : D.tup ((nl a).drop 1 ++ [.int 0]) = wd (badW a) := by
  unfold wd badW nl
  rw [List.map_append, List.map_drop]; rfl
theorem turn_of {n : Nat} {a b : Wd} {W : D} {V : List D} {ws : List Wd} (hn : n ∈ [2, 3, 4]) (e : V = ws.map wd) (h : ∀ w ∈ ws, w ∈ nets n) (hl : ws.length ≤ 1000) : Turn n a b W (.lst V) := by
  subst e
  by_cases h0 : ws = []
  · subst h0; exact turn_nil
  · exact turn_way hn h0 h hl
theorem all_turns {n : Nat} {a b c : Wd} {W : D} {ws : List Wd} {k : Nat} (hn : n ∈ [2, 3, 4]) (h : ∀ w ∈ ws, w ∈ nets n) (hl : ws.length ≤ 20) (hk : k < ws.length) (ha : ws.head? = some a) (hb : ws.getLast? = some b) (hbn : b ∈ nets n) (hc : c ∈ nets n) :
    ∀ V ∈ [D.lst (ws.map wd), .lst ((ws.map wd).take k ++ (ws.map wd).drop (k + 1)), .lst (ws.map wd ++ [wd b]), .lst ((ws.map wd).take k ++ [wd c] ++ (ws.map wd).drop k), .tup (ws.map wd), .lst [], .non] ++ [.lst ((ws.map wd).take k ++ [.non] ++ (ws.map wd).drop k), .lst (ws.map wd).reverse, .lst (ws.map fun w => D.lst (nl w))], Turn n a b W V := by
  have tk : ∀ w ∈ ws.take k, w ∈ nets n := fun w hw => h w (List.mem_of_mem_take hw)
  have dk : ∀ j, ∀ w ∈ ws.drop j, w ∈ nets n := fun j w hw => h w (List.mem_of_mem_drop hw)
  have l1 : (ws.take k).length ≤ 20 := Nat.le_trans (by rw [List.length_take]; exact Nat.min_le_right _ _) hl
  have l2 : ∀ j, (ws.drop j).length ≤ 20 := fun j => Nat.le_trans (by rw [List.length_drop]; omega) hl
  have m1 : (ws.map wd).take k = (ws.take k).map wd := List.map_take.symm
  have m2 : ∀ j, (ws.map wd).drop j = (ws.drop j).map wd := fun j => List.map_drop.symm
  intro V hV
  rw [m1, m2, m2] at hV
  simp only [List.mem_append, List.mem_cons, List.not_mem_nil, or_false] at hV
  rcases hV with (rfl | rfl | rfl | rfl | rfl | rfl | rfl) | (rfl | rfl | rfl)
  · exact turn_of hn rfl h (by omega)
  · refine turn_of (ws := ws.take k ++ ws.drop (k + 1)) hn (by rw [List.map_append]) (fun w hw => ?_) (by rw [List.length_append]; have := l2 (k + 1); omega)
    rcases List.mem_append.mp hw with hw | hw
    · exact tk w hw
    · exact dk _ w hw
  · refine turn_of (ws := ws ++ [b]) hn (by rw [List.map_append]; rfl) (fun w hw => ?_) (by rw [List.length_append]; show _ + 1 ≤ _; omega)
    rcases List.mem_append.mp hw with hw | hw
    · exact h w hw
    · rw [List.mem_singleton.mp hw]; exact hbn
  · refine turn_of (ws := ws.take k ++ [c] ++ ws.drop k) hn (by rw [List.map_append, List.map_append]; rfl) (fun w hw => ?_) (by rw [List.length_append, List.length_append]; show _ + 1 + _ ≤ _; have := l2 k; omega)
    rcases List.mem_append.mp hw with hw | hw
    · rcases List.mem_append.mp hw with hw | hw
      · exact tk w hw
      · rw [List.mem_singleton.mp hw]; exact hc
    · exact dk _ w hw
  · exact turn_tup _
  · exact turn_nil
  · exact turn_non
  · have hd : ws.drop k ≠ [] := fun z => by
      have := congrArg List.length z
      rw [List.length_drop] at this
      simp at this
      omega
    have := turn_mid (a := a) (b := b) (W := W) (us := ws.take k) (vs := ws.drop k) hn tk (dk k) hd (by
      cases k with
      | zero => exact .inl (by simp)
      | succ k => exact .inr (by rw [List.head?_take]; simp [ha])) (by rw [List.getLast?_drop]; simp [hb]; omega)
    rw [List.append_assoc]
    exact this
  · exact turn_of (ws := ws.reverse) hn (by rw [List.map_reverse]) (fun w hw => h w (List.mem_reverse.mp hw)) (by rw [List.length_reverse]; omega)
  · cases ws with
    | nil => simp at hk
    | cons x r => exact turn_head (eqv_lst _ a)
theorem okD_wd {k : Nat} {w : Wd} (h : w.length ≤ 1000) : okD (k + 2) (wd w) = true := by
  show (decide ((nl w).length ≤ 1000000) && (nl w).all (okD (k + 1))) = true
  rw [nl_len, decide_eq_true (by omega), Bool.true_and, List.all_eq_true]
  intro d hd
  obtain ⟨x, _, rfl⟩ := List.mem_map.mp hd
  rfl
theorem okD_due {q : Str} {w : Wd} (h : w.length ≤ 1000) : okD 12 (.lst [.str q, .tup [.str "refused", wd w]]) = true := by
  have e := okD_wd (k := 8) h
  show (true && (true && ((true && (true && (okD 10 (wd w) && true))) && true))) = true
  rw [e]; rfl
theorem law_true : LawTrue B_law N_law.length := fun ns hns => by
  have ht0 : TapeOk (tp78 ns) := ⟨ns, 0, 0, 78, rfl, by omega, by omega⟩
  obtain ⟨r, t1, e1, ht1, hr⟩ := next_nat ht0 (m := 3) (by omega) (by omega)
  have hn : 2 + r ∈ [2, 3, 4] := by
    have : r = 0 ∨ r = 1 ∨ r = 2 := by omega
    rcases this with e | e | e <;> subst e <;> decide
  have hn6 : 2 + r ≤ 6 := by omega
  obtain ⟨n, en⟩ : ∃ n, n = 2 + r := ⟨_, rfl⟩
  rw [← en] at hn hn6
  have hl := nets_len n hn
  obtain ⟨i, t2, e2, ht2, hi⟩ := next_nat ht1 (m := (nets n).length) hl.1 (by omega)
  obtain ⟨j, t3, e3, ht3, hj⟩ := next_nat ht2 (m := (nets n).length) hl.1 (by omega)
  have gi : (nets n)[i]? = some (nets n)[i] := List.getElem?_eq_getElem hi
  have gj : (nets n)[j]? = some (nets n)[j] := List.getElem?_eq_getElem hj
  obtain ⟨a, ea⟩ : ∃ a, a = (nets n)[i] := ⟨_, rfl⟩
  obtain ⟨b, eb⟩ : ∃ b, b = (nets n)[j] := ⟨_, rfl⟩
  rw [← ea] at gi
  rw [← eb] at gj
  have ha : a ∈ nets n := List.mem_of_getElem? gi
  have hb : b ∈ nets n := List.mem_of_getElem? gj
  obtain ⟨ws, us, w1, w2, w3, w4, w5, w6, w7, w8, w9⟩ := pair_of (pairs_all hn ha hb)
  have h0 : ws ≠ [] := fun z => by rw [z] at w2; cases w2
  have hp : 0 < ws.length := List.length_pos_iff.mpr h0
  obtain ⟨k, t4, e4, ht4, hk⟩ := next_nat ht3 (m := ws.length) hp (by omega)
  obtain ⟨m, t5, e5, ht5, hm⟩ := next_nat ht4 (m := (nets n).length) hl.1 (by omega)
  have gm : (nets n)[m]? = some (nets n)[m] := List.getElem?_eq_getElem hm
  obtain ⟨c, ec⟩ : ∃ c, c = (nets n)[m] := ⟨_, rfl⟩
  rw [← ec] at gm
  have hc : c ∈ nets n := List.mem_of_getElem? gm
  have elN : lenG [.lst ((nets n).map wd)] = some (.inl (.int (((nets n).length : Nat) : Int))) := by show some (Sum.inl (D.int _)) = _; rw [List.length_map]
  have elW : lenG [.lst (ws.map wd)] = some (.inl (.int ((ws.length : Nat) : Int))) := by show some (Sum.inl (D.int _)) = _; rw [List.length_map]
  have elB : lenG [.lst (us.map wd)] = some (.inl (.int ((ws.length : Nat) : Int))) := by show some (Sum.inl (D.int _)) = _; rw [List.length_map, w9]
  have ix : ∀ (q : Nat) (x : Wd), (nets n)[q]? = some x → ixG (.lst ((nets n).map wd)) (.int ((q : Nat) : Int)) = some (.inl (wd x)) := fun q x e => d_ixL (by rw [List.getElem?_map, e]; rfl)
  obtain ⟨z, rr, ez⟩ : ∃ z rr, ws = z :: rr := by
    cases ws with
    | nil => exact absurd rfl h0
    | cons x r => exact ⟨x, r, rfl⟩
  have za : z = a := by rw [ez] at w2; exact Option.some.inj w2
  obtain ⟨l, y, ey⟩ : ∃ l y, ws = l ++ [y] := ⟨_, _, (List.dropLast_concat_getLast h0).symm⟩
  have yb : y = b := by rw [ey] at w3; simpa using w3
  subst za yb
  have x0 : ixG (.lst (ws.map wd)) (.int 0) = some (.inl (wd z)) := by rw [ez]; exact d_ixL (k := 0) rfl
  have xl : ixG (.lst (ws.map wd)) (.int (-1)) = some (.inl (wd y)) := by rw [ey]; exact ix_last l y
  have nn : ∀ w, cmpB .NotEq (wd w) (wd w) = some false := fun w => by rw [ne_wd]; simp
  have mv := move_way_eq hn6 (nets_net n hn z ha) (nets_net n hn y hb) w1
  have mvb := move_way_eq hn6 (nets_net n hn y hb) (nets_net n hn z ha) w8
  have iw := imw_way (a := z) (b := y) hn h0 w5 (by omega)
  have iw2 : isWay z y ws = true := by unfold isWay; rw [w2, w3, w4]; simp
  rw [iw2] at iw
  have c1 := c1_eq (s0 := .sc ns) (t := .ow t3) (ni := ((n : Nat) : Int)) (a := wd z) (b := wd y) (N := .lst ((nets n).map wd)) (fun w hw => nets_sub (w5 w hw)) h0 (by omega) w4
  obtain ⟨i1, i2, i3⟩ := init_no n hn z ha
  obtain ⟨x9', f11⟩ := l_11 (s0 := .sc ns) (x8 := .int ((k : Nat) : Int)) (t := t5) (all_turns (a := z) (b := y) (c := c) (W := .lst (ws.map wd)) (k := k) hn w5 w6 hk w2 w3 hb hc)
  show ∃ ρ, B_law (.sc ns :: List.replicate 16 .no) = _
  rw [B_law_eq, seqN (l_1 ns), seqN (l_2 e1), ← en, seqN (l_3 hn), seqN (l_4 elN e2 e3 (ix i _ gi) (ix j _ gj)), seqN (l_5 mv), seqN (l_6 x0 (nn z) xl (nn y) elW (law_steps_eq w7) (by omega)), seqN (l_7 c1 iw), seqN (l_8 elW e4),
    seqN (l_9 (w0 := l.map wd) (u := wd y) (by rw [ey, List.map_append]; rfl) (by rw [List.length_map]; omega) elN e5 (ix m _ gm)), seqN (l_10 (by rw [List.length_map]; omega) (by show 7 ≤ 1000; omega) cl2), seqN f11, seqN (l_12 mvb)]
  have f13 : P_law_13 [.sc ns, .no, .va (.int ((n : Nat) : Int)), .va (.lst ((nets n).map wd)), .va (wd z), .va (wd y), .va (.lst (ws.map wd)), .no, .no, x9', .no, .no, .no, .va (.lst (us.map wd)), .no, .no, .no] =
      .next [.sc ns, .no, .va (.int ((n : Nat) : Int)), .va (.lst ((nets n).map wd)), .va (wd z), .va (wd y), .va (.lst (ws.map wd)), .no, .no, x9', .no, .no, .no, .va (.lst (us.map wd)), .va (wd (badW z)), .no, .no] := by
    have := l_13 (s0 := .sc ns) (x9 := x9') (ni := ((n : Nat) : Int)) (N := .lst ((nets n).map wd)) (b := wd y) (W := .lst (ws.map wd)) (B := .lst (us.map wd)) (xs := nl z) (by rw [nl_len]; omega)
    rw [bad_wd] at this
    exact this
  have hq : if isNet n (badW z) = true then ∃ W', f_move_way [.int ((n : Nat) : Int), wd (badW z), wd y] = .ret W' none else f_move_way [.int ((n : Nat) : Int), wd (badW z), wd y] = .exc "InvalidTable" (wd (badW z)) := by
    by_cases hb2 : isNet n (badW z) = true
    · rw [if_pos hb2]
      obtain ⟨w', _, q1, _⟩ := pair_of (pairs_all hn (bad_in n hn z ha hb2) hb)
      exact ⟨_, move_way_eq hn6 hb2 (nets_net n hn y hb) q1⟩
    · rw [if_neg hb2]
      exact mw_no1 hn6 (by simpa using hb2)
  rw [seqN f13, seqN (l_14 (q := isNet n (badW z)) hq (sl_init i2) (mw_no2 hn6 (nets_net n hn z ha) i1) ⟨ns, rfl⟩), seqN (l_15 (is_net_eq hn6) (sl_init i2))]
  exact l_16 elB elW (law_same_eq (okD_due (by rw [List.length_dropLast]; omega)))
end MP

namespace MP
open PySem PySem.Spec PyProof.Rows L2
/-! ### the promises, one after another -/
theorem all_mk (law_true : LawTrue B_law N_law.length) {l : PySem.W.OpenLaw} {w : World} {K : PySem.W.Frag} {h : Heap} {mg : Str → Option Value} {fa f0 f1 f2 f3 f4 f5 f6 f7 f8 f9 f10 f11 f12 f13 f14 f15 : Addr} (X : K.In h) (G : h.Ns mainGlobals mg) (hfa : mg (s_ "law") = some (.ref fa))
    {cA15 : Addr}
    {od0 an0 od1 an1 od2 an2 od3 an3 od4 an4 od5 an5 od6 an6 od7 an7 od8 an8 od9 an9 od10 an10 od11 an11 od12 an12 od13 an13 od14 an14 od15 an15 : Option Addr} {sl0 sl1 sl2 sl3 sl4 sl5 sl6 sl7 sl8 sl9 sl10 sl11 sl12 sl13 sl14 sl15 : Array (Option Value)} {oc0 kV0 dc0 pm0 cd0 ct0 oc1 kV1 dc1 pm1 cd1 ct1 oc2 kV2 dc2 pm2 cd2 ct2 oc3 kV3 dc3 pm3 cd3 ct3 oc4 kV4 dc4 pm4 cd4 ct4 oc5 kV5 dc5 pm5 cd5 ct5 oc6 kV6 dc6 pm6 cd6 ct6 oc7 kV7 dc7 pm7 cd7 ct7 oc8 kV8 dc8 pm8 cd8 ct8 oc9 kV9 dc9 pm9 cd9 ct9 oc10 kV10 dc10 pm10 cd10 ct10 oc11 kV11 dc11 pm11 cd11 ct11 oc12 kV12 dc12 pm12 cd12 ct12 oc13 kV13 dc13 pm13 cd13 ct13 oc14 kV14 dc14 pm14 cd14 ct14 oc15 kV15 dc15 pm15 ct15 : Value}
    (a0 : PySem.W.nsIn K mainGlobals "is_whole" = some (some (.ref f0))) (l0 : K.lookup f0 = some ⟨oc0, od0, .func (PySem.W.fnOf "is_whole" "is_whole" (defArgs (topS 5)) (defBody (topS 5)) (defScope (topS 5)) .none kV0 dc0 pm0 an0 cd0 ct0), sl0⟩) (c0 : PySem.W.codeIn K cd0 "is_whole" = true) (k0 : PySem.W.keepIn K (.ref f0) = true)
    (a1 : PySem.W.nsIn K mainGlobals "half_square" = some (some (.ref f1))) (l1 : K.lookup f1 = some ⟨oc1, od1, .func (PySem.W.fnOf "half_square" "half_square" (defArgs (topS 7)) (defBody (topS 7)) (defScope (topS 7)) .none kV1 dc1 pm1 an1 cd1 ct1), sl1⟩) (c1 : PySem.W.codeIn K cd1 "half_square" = true) (k1 : PySem.W.keepIn K (.ref f1) = true)
    (a2 : PySem.W.nsIn K mainGlobals "order_behind" = some (some (.ref f2))) (l2 : K.lookup f2 = some ⟨oc2, od2, .func (PySem.W.fnOf "order_behind" "order_behind" (defArgs (topS 8)) (defBody (topS 8)) (defScope (topS 8)) .none kV2 dc2 pm2 an2 cd2 ct2), sl2⟩) (c2 : PySem.W.codeIn K cd2 "order_behind" = true) (k2 : PySem.W.keepIn K (.ref f2) = true)
    (a3 : PySem.W.nsIn K mainGlobals "is_net" = some (some (.ref f3))) (l3 : K.lookup f3 = some ⟨oc3, od3, .func (PySem.W.fnOf "is_net" "is_net" (defArgs (topS 9)) (defBody (topS 9)) (defScope (topS 9)) .none kV3 dc3 pm3 an3 cd3 ct3), sl3⟩) (c3 : PySem.W.codeIn K cd3 "is_net" = true) (k3 : PySem.W.keepIn K (.ref f3) = true)
    (a4 : PySem.W.nsIn K mainGlobals "all_nets" = some (some (.ref f4))) (l4 : K.lookup f4 = some ⟨oc4, od4, .func (PySem.W.fnOf "all_nets" "all_nets" (defArgs (topS 11)) (defBody (topS 11)) (defScope (topS 11)) .none kV4 dc4 pm4 an4 cd4 ct4), sl4⟩) (c4 : PySem.W.codeIn K cd4 "all_nets" = true) (k4 : PySem.W.keepIn K (.ref f4) = true)
    (a5 : PySem.W.nsIn K mainGlobals "check_net" = some (some (.ref f5))) (l5 : K.lookup f5 = some ⟨oc5, od5, .func (PySem.W.fnOf "check_net" "check_net" (defArgs (topS 10)) (defBody (topS 10)) (defScope (topS 10)) .none kV5 dc5 pm5 an5 cd5 ct5), sl5⟩) (c5 : PySem.W.codeIn K cd5 "check_net" = true) (k5 : PySem.W.keepIn K (.ref f5) = true)
    (a6 : PySem.W.nsIn K mainGlobals "far_moves" = some (some (.ref f6))) (l6 : K.lookup f6 = some ⟨oc6, od6, .func (PySem.W.fnOf "far_moves" "far_moves" (defArgs (topS 12)) (defBody (topS 12)) (defScope (topS 12)) .none kV6 dc6 pm6 an6 cd6 ct6), sl6⟩) (c6 : PySem.W.codeIn K cd6 "far_moves" = true) (k6 : PySem.W.keepIn K (.ref f6) = true)
    (a7 : PySem.W.nsIn K mainGlobals "near_moves" = some (some (.ref f7))) (l7 : K.lookup f7 = some ⟨oc7, od7, .func (PySem.W.fnOf "near_moves" "near_moves" (defArgs (topS 13)) (defBody (topS 13)) (defScope (topS 13)) .none kV7 dc7 pm7 an7 cd7 ct7), sl7⟩) (c7 : PySem.W.codeIn K cd7 "near_moves" = true) (k7 : PySem.W.keepIn K (.ref f7) = true)
    (a8 : PySem.W.nsIn K mainGlobals "moved_word" = some (some (.ref f8))) (l8 : K.lookup f8 = some ⟨oc8, od8, .func (PySem.W.fnOf "moved_word" "moved_word" (defArgs (topS 14)) (defBody (topS 14)) (defScope (topS 14)) .none kV8 dc8 pm8 an8 cd8 ct8), sl8⟩) (c8 : PySem.W.codeIn K cd8 "moved_word" = true) (k8 : PySem.W.keepIn K (.ref f8) = true)
    (a9 : PySem.W.nsIn K mainGlobals "move_way" = some (some (.ref f9))) (l9 : K.lookup f9 = some ⟨oc9, od9, .func (PySem.W.fnOf "move_way" "move_way" (defArgs (topS 15)) (defBody (topS 15)) (defScope (topS 15)) .none kV9 dc9 pm9 an9 cd9 ct9), sl9⟩) (c9 : PySem.W.codeIn K cd9 "move_way" = true) (k9 : PySem.W.keepIn K (.ref f9) = true)
    (a10 : PySem.W.nsIn K mainGlobals "is_move_way" = some (some (.ref f10))) (l10 : K.lookup f10 = some ⟨oc10, od10, .func (PySem.W.fnOf "is_move_way" "is_move_way" (defArgs (topS 16)) (defBody (topS 16)) (defScope (topS 16)) .none kV10 dc10 pm10 an10 cd10 ct10), sl10⟩) (c10 : PySem.W.codeIn K cd10 "is_move_way" = true) (k10 : PySem.W.keepIn K (.ref f10) = true)
    (a11 : PySem.W.nsIn K mainGlobals "_law_next" = some (some (.ref f11))) (l11 : K.lookup f11 = some ⟨oc11, od11, .func (PySem.W.fnOf "_law_next" "_law_next" (defArgs (topS 18)) (defBody (topS 18)) (defScope (topS 18)) .none kV11 dc11 pm11 an11 cd11 ct11), sl11⟩) (c11 : PySem.W.codeIn K cd11 "_law_next" = true) (k11 : PySem.W.keepIn K (.ref f11) = true)
    (a12 : PySem.W.nsIn K mainGlobals "_law_same" = some (some (.ref f12))) (l12 : K.lookup f12 = some ⟨oc12, od12, .func (PySem.W.fnOf "_law_same" "_law_same" (defArgs (topS 19)) (defBody (topS 19)) (defScope (topS 19)) .none kV12 dc12 pm12 an12 cd12 ct12), sl12⟩) (c12 : PySem.W.codeIn K cd12 "_law_same" = true) (k12 : PySem.W.keepIn K (.ref f12) = true)
    (a13 : PySem.W.nsIn K mainGlobals "_law_near" = some (some (.ref f13))) (l13 : K.lookup f13 = some ⟨oc13, od13, .func (PySem.W.fnOf "_law_near" "_law_near" (defArgs (topS 20)) (defBody (topS 20)) (defScope (topS 20)) .none kV13 dc13 pm13 an13 cd13 ct13), sl13⟩) (c13 : PySem.W.codeIn K cd13 "_law_near" = true) (k13 : PySem.W.keepIn K (.ref f13) = true)
    (a14 : PySem.W.nsIn K mainGlobals "_law_steps" = some (some (.ref f14))) (l14 : K.lookup f14 = some ⟨oc14, od14, .func (PySem.W.fnOf "_law_steps" "_law_steps" (defArgs (topS 21)) (defBody (topS 21)) (defScope (topS 21)) .none kV14 dc14 pm14 an14 cd14 ct14), sl14⟩) (c14 : PySem.W.codeIn K cd14 "_law_steps" = true) (k14 : PySem.W.keepIn K (.ref f14) = true)
    (a15 : PySem.W.nsIn K mainGlobals "law" = some (some (.ref f15))) (l15 : K.lookup f15 = some ⟨oc15, od15, .func (PySem.W.fnOf "law" "law" (defArgs (topS 23)) (defBody (topS 23)) (defScope (topS 23)) .none kV15 dc15 pm15 an15 (.ref cA15) ct15), sl15⟩) (c15 : PySem.W.codeIn K (.ref cA15) "law" = true) (k15 : PySem.W.keepIn K (.ref f15) = true)
    (hd15 : PySem.W.codeHdIn K cA15 (tabOf K cA15) = true) (nt15 : K.lookup (tabOf K cA15) = none) (tb15 : h.get? (tabOf K cA15) = some { cls := .none, data := .fields #[] }) (hu15 : huB [(tabOf K cA15, (s_ "law" ++ s_ ".<locals>.") ++ s_ "<lambda>")] (tabOf K cA15) ((s_ "law" ++ s_ ".<locals>.") ++ s_ "<lambda>") = true)
    {CE0 : Addr} (eaE0 : PySem.W.nsIn K mainGlobals "PointwrightError" = some (some (.ref CE0)))
    {fiE0 cdE0 ccE0 : Addr} {odE0 anE0 : Option Addr} {slE0 : Array (Option Value)} {ocE0 kVE0 dcE0 pmE0 ctE0 : Value} (eiE0 : PySem.W.findIn K (.ref CE0) "__init__" = some (some (.ref fiE0)))
    (elE0 : K.lookup fiE0 = some ⟨ocE0, odE0, .func (PySem.W.ksFn "__init__" "PointwrightError.__init__" (defArgs (inC (topS 1))) (defBody (inC (topS 1))) (defScope (inC (topS 1))) .none kVE0 dcE0 pmE0 anE0 (.ref cdE0) ctE0 ccE0), slE0⟩) (ecE0 : PySem.W.codeIn K (.ref cdE0) "PointwrightError.__init__" = true)
    (ebE0 : iniB K CE0 CE0 = true) (efE0 : iniFB l.prog.main.file K fiE0 cdE0 ccE0 CE0 = true)
    {CE1 : Addr} (eaE1 : PySem.W.nsIn K mainGlobals "TooLarge" = some (some (.ref CE1)))
    {fiE1 cdE1 ccE1 : Addr} {odE1 anE1 : Option Addr} {slE1 : Array (Option Value)} {ocE1 kVE1 dcE1 pmE1 ctE1 : Value} (eiE1 : PySem.W.findIn K (.ref CE1) "__init__" = some (some (.ref fiE1)))
    (elE1 : K.lookup fiE1 = some ⟨ocE1, odE1, .func (PySem.W.ksFn "__init__" "TooLarge.__init__" (defArgs (inC (topS 2))) (defBody (inC (topS 2))) (defScope (inC (topS 2))) .none kVE1 dcE1 pmE1 anE1 (.ref cdE1) ctE1 ccE1), slE1⟩) (ecE1 : PySem.W.codeIn K (.ref cdE1) "TooLarge.__init__" = true)
    (ebE1 : iniB K CE1 CE1 = true) (efE1 : iniFB l.prog.main.file K fiE1 cdE1 ccE1 CE1 = true)
    (epE1 : iniB K CE1 CE0 = true) (enE1 : PySem.W.ks_superIn K CE1 CE1 "__init__" = some (some (.ref fiE0))) (eqE1 : PySem.W.ks_superIn K CE1 CE0 "__init__" = some (some (.builtin "ValueError.__init__")))
    {CE2 : Addr} (eaE2 : PySem.W.nsIn K mainGlobals "InvalidTable" = some (some (.ref CE2)))
    {fiE2 cdE2 ccE2 : Addr} {odE2 anE2 : Option Addr} {slE2 : Array (Option Value)} {ocE2 kVE2 dcE2 pmE2 ctE2 : Value} (eiE2 : PySem.W.findIn K (.ref CE2) "__init__" = some (some (.ref fiE2)))
    (elE2 : K.lookup fiE2 = some ⟨ocE2, odE2, .func (PySem.W.ksFn "__init__" "InvalidTable.__init__" (defArgs (inC (topS 3))) (defBody (inC (topS 3))) (defScope (inC (topS 3))) .none kVE2 dcE2 pmE2 anE2 (.ref cdE2) ctE2 ccE2), slE2⟩) (ecE2 : PySem.W.codeIn K (.ref cdE2) "InvalidTable.__init__" = true)
    (ebE2 : iniB K CE2 CE2 = true) (efE2 : iniFB l.prog.main.file K fiE2 cdE2 ccE2 CE2 = true)
    (epE2 : iniB K CE2 CE0 = true) (enE2 : PySem.W.ks_superIn K CE2 CE2 "__init__" = some (some (.ref fiE0))) (eqE2 : PySem.W.ks_superIn K CE2 CE0 "__init__" = some (some (.builtin "ValueError.__init__")))
    (et : (l.prog.main.scope.names.lookup (s_ "super")).isSome = false)
    {fA : Addr} {odA2 anA : Option Addr} {slA : Array (Option Value)} {ocA kVA dcA pmA cdA ctA : Value} (aA : PySem.W.nsIn K mainGlobals "_law_asked" = some (some (.ref fA))) (lA : K.lookup fA = some ⟨ocA, odA2, .func (PySem.W.fnOf "_law_asked" "_law_asked" (defArgs (topS 22)) (defBody (topS 22)) (defScope (topS 22)) .none kVA dcA pmA anA cdA ctA), slA⟩) (cA : PySem.W.codeIn K cdA "_law_asked" = true) (kA : PySem.W.keepIn K (.ref fA) = true)
    (bA : askB K (defScope (topS 22)) [(s_ "TooLarge", CE1), (s_ "InvalidTable", CE2)] [(s_ "InvalidTable", CE2), (s_ "PointwrightError", CE0)] = true)
    (z0 : PySem.W.nsIn K mainGlobals "len" = some none)
    (z1 : PySem.W.nsIn K mainGlobals "abs" = some none)
    (z2 : PySem.W.nsIn K mainGlobals "all" = some none)
    (z3 : PySem.W.nsIn K mainGlobals "sorted" = some none)
    (z4 : PySem.W.nsIn K mainGlobals "int" = some none)
    (z5 : PySem.W.nsIn K mainGlobals "list" = some none)
    (z6 : PySem.W.nsIn K mainGlobals "tuple" = some none)
    (z7 : PySem.W.nsIn K mainGlobals "isinstance" = some none)
    (z8 : PySem.W.nsIn K mainGlobals "bool" = some none)
    (z9 : PySem.W.nsIn K mainGlobals "str" = some none)
    (z10 : PySem.W.nsIn K mainGlobals "range" = some none)
    (z11 : PySem.W.nsIn K mainGlobals "super" = some none)
    : LamX.LawAtS l w K (L2.CX l.prog w) 33 63 "script" mg fa h := by
  have e := hfa.symm.trans (PySem.W.mg_of X G a15)
  cases e
  have MO : ModOk K mg csN blN := by
    refine ⟨fun x hx => ?_, fun x d hx => ?_⟩
    · unfold blN at hx
      rcases List.mem_cons.mp hx with hx | hx
      · rw [hx]; exact PySem.W.mg_none_of X G z0
      rcases List.mem_cons.mp hx with hx | hx
      · rw [hx]; exact PySem.W.mg_none_of X G z1
      rcases List.mem_cons.mp hx with hx | hx
      · rw [hx]; exact PySem.W.mg_none_of X G z2
      rcases List.mem_cons.mp hx with hx | hx
      · rw [hx]; exact PySem.W.mg_none_of X G z3
      rcases List.mem_cons.mp hx with hx | hx
      · rw [hx]; exact PySem.W.mg_none_of X G z4
      rcases List.mem_cons.mp hx with hx | hx
      · rw [hx]; exact PySem.W.mg_none_of X G z5
      rcases List.mem_cons.mp hx with hx | hx
      · rw [hx]; exact PySem.W.mg_none_of X G z6
      rcases List.mem_cons.mp hx with hx | hx
      · rw [hx]; exact PySem.W.mg_none_of X G z7
      rcases List.mem_cons.mp hx with hx | hx
      · rw [hx]; exact PySem.W.mg_none_of X G z8
      rcases List.mem_cons.mp hx with hx | hx
      · rw [hx]; exact PySem.W.mg_none_of X G z9
      rcases List.mem_cons.mp hx with hx | hx
      · rw [hx]; exact PySem.W.mg_none_of X G z10
      rcases List.mem_cons.mp hx with hx | hx
      · rw [hx]; exact PySem.W.mg_none_of X G z11
      · cases hx
    · unfold csN at hx
      cases hx
  have F0 := fun_mk (st := topS 5) l0 c0 k0
  have b0 := F0.binds (ps := [s_ "value"]) fun _ _ _ _ _ _ us hl => match us, hl with | [_], _ => rfl
  have m0 : mg (s_ "is_whole") = _ := PySem.W.mg_of X G a0
  have F1 := fun_mk (st := topS 7) l1 c1 k1
  have b1 := F1.binds (ps := [s_ "many"]) fun _ _ _ _ _ _ us hl => match us, hl with | [_], _ => rfl
  have m1 : mg (s_ "half_square") = _ := PySem.W.mg_of X G a1
  have F2 := fun_mk (st := topS 8) l2 c2 k2
  have b2 := F2.binds (ps := [s_ "many", s_ "word"]) fun _ _ _ _ _ _ us hl => match us, hl with | [_, _], _ => rfl
  have m2 : mg (s_ "order_behind") = _ := PySem.W.mg_of X G a2
  have F3 := fun_mk (st := topS 9) l3 c3 k3
  have b3 := F3.binds (ps := [s_ "many", s_ "value"]) fun _ _ _ _ _ _ us hl => match us, hl with | [_, _], _ => rfl
  have m3 : mg (s_ "is_net") = _ := PySem.W.mg_of X G a3
  have F4 := fun_mk (st := topS 11) l4 c4 k4
  have b4 := F4.binds (ps := [s_ "many", s_ "most"]) fun _ _ _ _ _ _ us hl => match us, hl with | [_, _], _ => rfl
  have m4 : mg (s_ "all_nets") = _ := PySem.W.mg_of X G a4
  have F5 := fun_mk (st := topS 10) l5 c5 k5
  have b5 := F5.binds (ps := [s_ "many", s_ "word"]) fun _ _ _ _ _ _ us hl => match us, hl with | [_, _], _ => rfl
  have m5 : mg (s_ "check_net") = _ := PySem.W.mg_of X G a5
  have F6 := fun_mk (st := topS 12) l6 c6 k6
  have b6 := F6.binds (ps := [s_ "word"]) fun _ _ _ _ _ _ us hl => match us, hl with | [_], _ => rfl
  have m6 : mg (s_ "far_moves") = _ := PySem.W.mg_of X G a6
  have F7 := fun_mk (st := topS 13) l7 c7 k7
  have b7 := F7.binds (ps := [s_ "word"]) fun _ _ _ _ _ _ us hl => match us, hl with | [_], _ => rfl
  have m7 : mg (s_ "near_moves") = _ := PySem.W.mg_of X G a7
  have F8 := fun_mk (st := topS 14) l8 c8 k8
  have b8 := F8.binds (ps := [s_ "word", s_ "kind", s_ "k"]) fun _ _ _ _ _ _ us hl => match us, hl with | [_, _, _], _ => rfl
  have m8 : mg (s_ "moved_word") = _ := PySem.W.mg_of X G a8
  have F9 := fun_mk (st := topS 15) l9 c9 k9
  have b9 := F9.binds (ps := [s_ "many", s_ "first", s_ "second"]) fun _ _ _ _ _ _ us hl => match us, hl with | [_, _, _], _ => rfl
  have m9 : mg (s_ "move_way") = _ := PySem.W.mg_of X G a9
  have F10 := fun_mk (st := topS 16) l10 c10 k10
  have b10 := F10.binds (ps := [s_ "many", s_ "first", s_ "second", s_ "value"]) fun _ _ _ _ _ _ us hl => match us, hl with | [_, _, _, _], _ => rfl
  have m10 : mg (s_ "is_move_way") = _ := PySem.W.mg_of X G a10
  have F11 := fun_mk (st := topS 18) l11 c11 k11
  have b11 := F11.binds (ps := [s_ "tape", s_ "many"]) fun _ _ _ _ _ _ us hl => match us, hl with | [_, _], _ => rfl
  have m11 : mg (s_ "_law_next") = _ := PySem.W.mg_of X G a11
  have F12 := fun_mk (st := topS 19) l12 c12 k12
  have b12 := F12.binds (ps := [s_ "told", s_ "due"]) fun _ _ _ _ _ _ us hl => match us, hl with | [_, _], _ => rfl
  have m12 : mg (s_ "_law_same") = _ := PySem.W.mg_of X G a12
  have F13 := fun_mk (st := topS 20) l13 c13 k13
  have b13 := F13.binds (ps := [s_ "word"]) fun _ _ _ _ _ _ us hl => match us, hl with | [_], _ => rfl
  have m13 : mg (s_ "_law_near") = _ := PySem.W.mg_of X G a13
  have F14 := fun_mk (st := topS 21) l14 c14 k14
  have b14 := F14.binds (ps := [s_ "first", s_ "second"]) fun _ _ _ _ _ _ us hl => match us, hl with | [_, _], _ => rfl
  have m14 : mg (s_ "_law_steps") = _ := PySem.W.mg_of X G a14
  have F15 := fun_mk (st := topS 23) l15 c15 k15
  refine ⟨PySem.W.fnOf "law" "law" (defArgs (topS 23)) (defBody (topS 23)) (defScope (topS 23)) .none kV15 dc15 pm15 an15 (.ref cA15) ct15, ([(cA15, tabOf K cA15)] : List (Addr × Addr)), spLaw [(tabOf K cA15, (s_ "law" ++ s_ ".<locals>.") ++ s_ "<lambda>")] K, ?_, ?_, ?_, fun s v => .of_eq rfl, fun H a ns hl _ hH hS => ⟨a, ns, rfl, hS, hl, ?_, fun _ => rfl⟩, fun base XB GB TB => ?_⟩
  · intro p hp
    rcases List.mem_cons.mp hp with hp | hp
    · rw [hp]; exact tb15
    cases hp
  · intro p hp
    rcases List.mem_cons.mp hp with hp | hp
    · rw [hp]; exact nt15
    cases hp
  · intro p hp
    rcases List.mem_cons.mp hp with hp | hp
    · rw [hp]; exact PySem.W.codeHd_of_K X hd15
    cases hp
  · intro p hp
    rcases List.mem_cons.mp hp with hp | hp
    · rw [hp]; exact LamX.TabS.nil (hH (cA15, tabOf K cA15) (by simp))
    cases hp
  have T15 : LamT [(tabOf K cA15, (s_ "law" ++ s_ ".<locals>.") ++ s_ "<lambda>")] base mg (s_ "law") (defScope (topS 23)) (.ref cA15) := fun L f => ⟨cA15, tabOf K cA15, TB (cA15, tabOf K cA15) (by simp), rfl, by show (tabOf K cA15, (s_ "law" ++ s_ ".<locals>.") ++ s_ "<lambda>") ∈ _; simp, hu_of hu15⟩
  have AL0 : AlOk K mg al_is_whole := al_nil
  have AL1 : AlOk K mg al_half_square := al_nil
  have AL2 : AlOk K mg al_order_behind := al_nil
  have AL3 : AlOk K mg al_is_net := al_nil
  have AL4 : AlOk K mg al_all_nets := al_nil
  have AL5 : AlOk K mg al_check_net := al_nil
  have AL6 : AlOk K mg al_far_moves := al_nil
  have AL7 : AlOk K mg al_near_moves := al_nil
  have AL8 : AlOk K mg al_moved_word := al_nil
  have AL9 : AlOk K mg al_move_way := al_nil
  have AL10 : AlOk K mg al_is_move_way := al_nil
  have AL11 : AlOk K mg al__law_next := al_nil
  have AL12 : AlOk K mg al__law_same := al_nil
  have AL13 : AlOk K mg al__law_near := al_nil
  have AL14 : AlOk K mg al__law_steps := al_nil
  have AL15 : AlOk K mg al_law := al_nil
  have gE0 : mg (s_ "PointwrightError") = _ := PySem.W.mg_of X G eaE0
  have gE1 : mg (s_ "TooLarge") = _ := PySem.W.mg_of X G eaE1
  have gE2 : mg (s_ "InvalidTable") = _ := PySem.W.mg_of X G eaE2
  have sup : mg (s_ "super") = none := PySem.W.mg_none_of X G z11
  have SE0 : IniSc (defScope (inC (topS 1))) := ⟨rfl, rfl, rfl, rfl, rfl, rfl, rfl, by decide +kernel, by decide +kernel⟩
  obtain ⟨TFE0, tyE0, fnE0⟩ := iniF_ok (P := l.prog) efE0 elE0 ⟨_, rfl, rfl⟩ sup et
  have hbE0 : Binds K (PySem.W.ksFn "__init__" "PointwrightError.__init__" (defArgs (inC (topS 1))) (defBody (inC (topS 1))) (defScope (inC (topS 1))) .none kVE0 dcE0 pmE0 anE0 (.ref cdE0) ctE0 ccE0) [s_ "self", s_ "place"] [] := Binds.all fun us hl => match us, hl with | [_, _], _ => rfl
  have SE1 : IniSc (defScope (inC (topS 2))) := ⟨rfl, rfl, rfl, rfl, rfl, rfl, rfl, by decide +kernel, by decide +kernel⟩
  obtain ⟨TFE1, tyE1, fnE1⟩ := iniF_ok (P := l.prog) efE1 elE1 ⟨_, rfl, rfl⟩ sup et
  have hbE1 : Binds K (PySem.W.ksFn "__init__" "TooLarge.__init__" (defArgs (inC (topS 2))) (defBody (inC (topS 2))) (defScope (inC (topS 2))) .none kVE1 dcE1 pmE1 anE1 (.ref cdE1) ctE1 ccE1) [s_ "self", s_ "place"] [] := Binds.all fun us hl => match us, hl with | [_, _], _ => rfl
  have SE2 : IniSc (defScope (inC (topS 3))) := ⟨rfl, rfl, rfl, rfl, rfl, rfl, rfl, by decide +kernel, by decide +kernel⟩
  obtain ⟨TFE2, tyE2, fnE2⟩ := iniF_ok (P := l.prog) efE2 elE2 ⟨_, rfl, rfl⟩ sup et
  have hbE2 : Binds K (PySem.W.ksFn "__init__" "InvalidTable.__init__" (defArgs (inC (topS 3))) (defBody (inC (topS 3))) (defScope (inC (topS 3))) .none kVE2 dcE2 pmE2 anE2 (.ref cdE2) ctE2 ccE2) [s_ "self", s_ "place"] [] := Binds.all fun us hl => match us, hl with | [_, _], _ => rfl
  have KE1 : ErrK l.prog w K mg base 2 (s_ "TooLarge") CE1 := by
    refine errK_of (n := 3) gE1 (oxB_ok (Bool.and_eq_true_iff.mp ebE1).1) eiE1 tyE1 ?_ hbE1
    refine sub_fn (n := 2) (k := 1) (by decide) ?_ elE1 ecE1 SE1 (iniB_ok ebE1) TFE1 enE1 tyE0 fnE0 (fd2 := PySem.W.ksFn "__init__" "PointwrightError.__init__" (defArgs (inC (topS 1))) (defBody (inC (topS 1))) (defScope (inC (topS 1))) .none kVE0 dcE0 pmE0 anE0 (.ref cdE0) ctE0 ccE0) ?_ hbE0
    · exact ⟨_, fun _ => rfl⟩
    · refine base_fn (k := 0) ?_ elE0 ecE0 SE0 (iniB_ok epE1) TFE0 eqE1
      exact ⟨_, fun _ => rfl⟩
  have KE2 : ErrK l.prog w K mg base 2 (s_ "InvalidTable") CE2 := by
    refine errK_of (n := 3) gE2 (oxB_ok (Bool.and_eq_true_iff.mp ebE2).1) eiE2 tyE2 ?_ hbE2
    refine sub_fn (n := 2) (k := 1) (by decide) ?_ elE2 ecE2 SE2 (iniB_ok ebE2) TFE2 enE2 tyE0 fnE0 (fd2 := PySem.W.ksFn "__init__" "PointwrightError.__init__" (defArgs (inC (topS 1))) (defBody (inC (topS 1))) (defScope (inC (topS 1))) .none kVE0 dcE0 pmE0 anE0 (.ref cdE0) ctE0 ccE0) ?_ hbE0
    · exact ⟨_, fun _ => rfl⟩
    · refine base_fn (k := 0) ?_ elE0 ecE0 SE0 (iniB_ok epE2) TFE0 eqE2
      exact ⟨_, fun _ => rfl⟩
  have FA := fun_mk (st := topS 22) lA cA kA
  have bnA := FA.binds (ps := [s_ "ask"]) fun _ _ _ _ _ _ us hl => match us, hl with | [_], _ => rfl
  have QA : AskF K mg (defScope (topS 22)) erN ak__law_asked := askF_of (er := [(s_ "TooLarge", CE1), (s_ "InvalidTable", CE2)]) (hsA := [(s_ "InvalidTable", CE2), (s_ "PointwrightError", CE0)]) (by
      intro p hp
      rcases List.mem_cons.mp hp with hp | hp
      · rw [hp]; exact gE1
      rcases List.mem_cons.mp hp with hp | hp
      · rw [hp]; exact gE2
      cases hp) (by
      intro p hp
      rcases List.mem_cons.mp hp with hp | hp
      · rw [hp]; exact gE2
      rcases List.mem_cons.mp hp with hp | hp
      · rw [hp]; exact gE0
      cases hp) bA rfl
  have KA : AskK l.prog w K mg base erN (s_ "_law_asked") ak__law_asked := askK_of (i := 1) (n := s_ "e") (Ng := [s_ "ask", s_ "e"]) (PySem.W.mg_of X G aA) kA lA cA bnA ⟨rfl, rfl, rfl, by decide +kernel, rfl, by decide +kernel, by decide +kernel⟩ rfl (.inl rfl) (by decide) (by decide) (by kernel_rfl) QA rfl rfl (by decide) (by decide) (fun _ => rfl)
  have XO : XOk l.prog w K mg base 3 erN akN := by
    refine ⟨fun c hc => ?_, fun x hs z => ?_⟩
    · unfold erN at hc
      rcases List.mem_cons.mp hc with hc | hc
      · rw [hc]; exact ⟨2, CE1, KE1, by decide⟩
      rcases List.mem_cons.mp hc with hc | hc
      · rw [hc]; exact ⟨2, CE2, KE2, by decide⟩
      cases hc
    · unfold akN at z
      rw [List.lookup_cons] at z; split at z
      · rename_i hq; cases z; rw [show x = s_ "_law_asked" by simpa using hq]; exact KA
      cases z
  have G0 : GmOk [(tabOf K cA15, (s_ "law" ++ s_ ".<locals>.") ++ s_ "<lambda>")] l.prog w K mg base 3 g_0 := gm_nil
  have G1 : GmOk [(tabOf K cA15, (s_ "law" ++ s_ ".<locals>.") ++ s_ "<lambda>")] l.prog w K mg base 4 g_1 := gm_def (io := none) 60 MO AL0 (XO.mono (by omega)) G0 F0 sc_is_whole c_is_whole m0 b0
  have G2 : GmOk [(tabOf K cA15, (s_ "law" ++ s_ ".<locals>.") ++ s_ "<lambda>")] l.prog w K mg base 5 g_2 := gm_def (io := none) 60 MO AL1 (XO.mono (by omega)) G1 F1 sc_half_square c_half_square m1 b1
  have G3 : GmOk [(tabOf K cA15, (s_ "law" ++ s_ ".<locals>.") ++ s_ "<lambda>")] l.prog w K mg base 6 g_3 := gm_def (io := none) 60 MO AL2 (XO.mono (by omega)) G2 F2 sc_order_behind c_order_behind m2 b2
  have G4 : GmOk [(tabOf K cA15, (s_ "law" ++ s_ ".<locals>.") ++ s_ "<lambda>")] l.prog w K mg base 7 g_4 := gm_def (io := none) 60 MO AL3 (XO.mono (by omega)) G3 F3 sc_is_net c_is_net m3 b3
  have G5 : GmOk [(tabOf K cA15, (s_ "law" ++ s_ ".<locals>.") ++ s_ "<lambda>")] l.prog w K mg base 8 g_5 := gm_def (io := none) 60 MO AL4 (XO.mono (by omega)) G4 F4 sc_all_nets c_all_nets m4 b4
  have G6 : GmOk [(tabOf K cA15, (s_ "law" ++ s_ ".<locals>.") ++ s_ "<lambda>")] l.prog w K mg base 9 g_6 := gm_def (io := none) 60 MO AL5 (XO.mono (by omega)) G5 F5 sc_check_net c_check_net m5 b5
  have G7 : GmOk [(tabOf K cA15, (s_ "law" ++ s_ ".<locals>.") ++ s_ "<lambda>")] l.prog w K mg base 10 g_7 := gm_def (io := none) 60 MO AL6 (XO.mono (by omega)) G6 F6 sc_far_moves c_far_moves m6 b6
  have G8 : GmOk [(tabOf K cA15, (s_ "law" ++ s_ ".<locals>.") ++ s_ "<lambda>")] l.prog w K mg base 11 g_8 := gm_def (io := none) 60 MO AL7 (XO.mono (by omega)) G7 F7 sc_near_moves c_near_moves m7 b7
  have G9 : GmOk [(tabOf K cA15, (s_ "law" ++ s_ ".<locals>.") ++ s_ "<lambda>")] l.prog w K mg base 12 g_9 := gm_def (io := none) 60 MO AL8 (XO.mono (by omega)) G8 F8 sc_moved_word c_moved_word m8 b8
  have G10 : GmOk [(tabOf K cA15, (s_ "law" ++ s_ ".<locals>.") ++ s_ "<lambda>")] l.prog w K mg base 13 g_10 := gm_def (io := none) 60 MO AL9 (XO.mono (by omega)) G9 F9 sc_move_way c_move_way m9 b9
  have G11 : GmOk [(tabOf K cA15, (s_ "law" ++ s_ ".<locals>.") ++ s_ "<lambda>")] l.prog w K mg base 14 g_11 := gm_def (io := none) 60 MO AL10 (XO.mono (by omega)) G10 F10 sc_is_move_way c_is_move_way m10 b10
  have G12 : GmOk [(tabOf K cA15, (s_ "law" ++ s_ ".<locals>.") ++ s_ "<lambda>")] l.prog w K mg base 15 g_12 := gm_def (io := (some 0)) 60 MO AL11 (XO.mono (by omega)) G11 F11 sc__law_next c__law_next m11 b11
  have R12 : ∀ i, GmOk [(tabOf K cA15, (s_ "law" ++ s_ ".<locals>.") ++ s_ "<lambda>")] l.prog w K mg base (15 + i) ((s_ "_law_same", ⟨2, none, r__law_same i⟩) :: g_12) := fun i => by
    induction i with
    | zero => exact gm_rec0 2 G12 F12 rfl m12 b12
    | succ i ih => exact gm_recS (io := none) 60 MO AL12 (XO.mono (by omega)) ih F12 sc__law_same (c__law_same (r__law_same i)) m12 b12 rfl
  have G13 : GmOk [(tabOf K cA15, (s_ "law" ++ s_ ".<locals>.") ++ s_ "<lambda>")] l.prog w K mg base 27 g_13 := R12 12
  have G14 : GmOk [(tabOf K cA15, (s_ "law" ++ s_ ".<locals>.") ++ s_ "<lambda>")] l.prog w K mg base 28 g_14 := gm_def (io := none) 60 MO AL13 (XO.mono (by omega)) G13 F13 sc__law_near c__law_near m13 b13
  have G15 : GmOk [(tabOf K cA15, (s_ "law" ++ s_ ".<locals>.") ++ s_ "<lambda>")] l.prog w K mg base 29 g_15 := gm_def (io := none) 60 MO AL14 (XO.mono (by omega)) G14 F14 sc__law_steps c__law_steps m14 b14
  exact law_okL 60 MO AL15 (XO.mono (by omega)) G15 l15 c15 sc_law T15 c_law law_true
end MP
open PySem PySem.W PyProof.Rows
set_option maxHeartbeats 0 in
theorem PySem.Challenge.cw_pointwright_k78_whole_ways_between_nets_holds : PySem.Challenge.rw_pointwright_k78_whole_ways_between_nets.Holds := by
  w_on; o_law; k_head; (case hw => w_witness2)
  k_fill
  refine LamX.walk_ofTs (l := PySem.Challenge.rw_pointwright_k78_whole_ways_between_nets) (n := 63) (k := 33) (x := "script") (CX := fun w => L2.CX PySem.Challenge.rw_pointwright_k78_whole_ways_between_nets.prog w) rfl (by decide) rfl ⟨rfl, by decide, by decide⟩ (fun w h Y => PySem.W.km_in_of Y) ?F (fun _ _ _ _ _ => MP.hcx)
  case F =>
    intro w mg fa h Y KX G hmg
    have hT8 := PySem.W.km_tabs_of Y
    refine' MP.all_mk MP.law_true KX G hmg ?a0 ?l0 ?c0 ?k0 ?a1 ?l1 ?c1 ?k1 ?a2 ?l2 ?c2 ?k2 ?a3 ?l3 ?c3 ?k3 ?a4 ?l4 ?c4 ?k4 ?a5 ?l5 ?c5 ?k5 ?a6 ?l6 ?c6 ?k6 ?a7 ?l7 ?c7 ?k7 ?a8 ?l8 ?c8 ?k8 ?a9 ?l9 ?c9 ?k9 ?a10 ?l10 ?c10 ?k10 ?a11 ?l11 ?c11 ?k11 ?a12 ?l12 ?c12 ?k12 ?a13 ?l13 ?c13 ?k13 ?a14 ?l14 ?c14 ?k14 ?a15 ?l15 ?c15 ?k15 ?hd15 ?nt15 ?tb15 ?hu15 ?eaE0 ?eiE0 ?elE0 ?ecE0 ?ebE0 ?efE0 ?eaE1 ?eiE1 ?elE1 ?ecE1 ?ebE1 ?efE1 ?epE1 ?enE1 ?eqE1 ?eaE2 ?eiE2 ?elE2 ?ecE2 ?ebE2 ?efE2 ?epE2 ?enE2 ?eqE2 ?et ?aA ?lA ?cA ?kA ?bA ?z0 ?z1 ?z2 ?z3 ?z4 ?z5 ?z6 ?z7 ?z8 ?z9 ?z10 ?z11
    case a0 => k_is
    case l0 => k_is
    case c0 => k_is
    case k0 => k_is
    case a1 => k_is
    case l1 => k_is
    case c1 => k_is
    case k1 => k_is
    case a2 => k_is
    case l2 => k_is
    case c2 => k_is
    case k2 => k_is
    case a3 => k_is
    case l3 => k_is
    case c3 => k_is
    case k3 => k_is
    case a4 => k_is
    case l4 => k_is
    case c4 => k_is
    case k4 => k_is
    case a5 => k_is
    case l5 => k_is
    case c5 => k_is
    case k5 => k_is
    case a6 => k_is
    case l6 => k_is
    case c6 => k_is
    case k6 => k_is
    case a7 => k_is
    case l7 => k_is
    case c7 => k_is
    case k7 => k_is
    case a8 => k_is
    case l8 => k_is
    case c8 => k_is
    case k8 => k_is
    case a9 => k_is
    case l9 => k_is
    case c9 => k_is
    case k9 => k_is
    case a10 => k_is
    case l10 => k_is
    case c10 => k_is
    case k10 => k_is
    case a11 => k_is
    case l11 => k_is
    case c11 => k_is
    case k11 => k_is
    case a12 => k_is
    case l12 => k_is
    case c12 => k_is
    case k12 => k_is
    case a13 => k_is
    case l13 => k_is
    case c13 => k_is
    case k13 => k_is
    case a14 => k_is
    case l14 => k_is
    case c14 => k_is
    case k14 => k_is
    case a15 => k_is
    case l15 => k_is
    case c15 => k_is
    case k15 => k_is
    case hd15 => kernel_rfl
    case nt15 => kernel_rfl
    case tb15 => exact hT8 _ (by first | k_mem | decide +kernel)
    case hu15 => kernel_rfl
    case eaE0 => k_is
    case eiE0 => k_is
    case elE0 => k_is
    case ecE0 => k_is
    case ebE0 => kernel_rfl
    case efE0 => kernel_rfl
    case eaE1 => k_is
    case eiE1 => k_is
    case elE1 => k_is
    case ecE1 => k_is
    case ebE1 => kernel_rfl
    case efE1 => kernel_rfl
    case epE1 => kernel_rfl
    case enE1 => kernel_rfl
    case eqE1 => kernel_rfl
    case eaE2 => k_is
    case eiE2 => k_is
    case elE2 => k_is
    case ecE2 => k_is
    case ebE2 => kernel_rfl
    case efE2 => kernel_rfl
    case epE2 => kernel_rfl
    case enE2 => kernel_rfl
    case eqE2 => kernel_rfl
    case et => kernel_rfl
    case aA => k_is
    case lA => k_is
    case cA => k_is
    case kA => k_is
    case bA => kernel_rfl
    case z0 => k_is
    case z1 => k_is
    case z2 => k_is
    case z3 => k_is
    case z4 => k_is
    case z5 => k_is
    case z6 => k_is
    case z7 => k_is
    case z8 => k_is
    case z9 => k_is
    case z10 => k_is
    case z11 => k_is
