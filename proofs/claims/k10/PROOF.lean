import PyProof.Rows.All
import Wide.All
import OpenK.AllK
import Wide.FinOn
import HandS.ForMost
import HandS.ForExc
import HandS.Wide
import HandS.Deep
import KE.SortData
import HandS.TupAny
import HandS.SortKw
import HandS.Style
import HandS.TupLe
import HandS.Conv
import HandS.IsInst
import HandS.TupSets
import HandS.Strs
import HandS.SetFor
import HandS.Base
import PyProof.Rows.TupIter
import HandS.Zip
import HandS.Rev
import HandS.RevRange
import HandS.Comp
import KE.GoesMore
import KE.GoesEnum
import HandS.Exc
import HandS.TryOnly
import HandS.Defaults
import HandS.Ends
import HandS.Head0
import HandS.Head1
import HandS.Head2
import HandS.HeadEnd
import HandS.HeadHook1
import HandS.HeadHook2
import PySem.Challenge.RW_swapstars_k10_least_rows_known
set_option Elab.async false
set_option linter.all false
set_option maxRecDepth 100000
set_option maxHeartbeats 8000000
namespace VI
open PySem PySem.Spec PyProof.Rows L2

/-! ### data, levels, slots -/
inductive D where
  | non | bl (b : Bool) | int (i : Int) | str (s : Str)
  | tup (ds : List D) | lst (ds : List D)
  | dK (kvs : List (Key × D)) | dT (kvs : List (List Key × D))
  | hole
instance : Inhabited D := ⟨.non⟩
/-- how far the mutable parts are one's own: none, the outermost alone, all -/
inductive Lv where | sh | top | full
  deriving DecidableEq
def Lv.pred : Lv → Lv
  | .full => .full
  | _ => .sh
def Lv.succ : Lv → Lv
  | .full => .full
  | _ => .top
mutual
def imm : D → Bool
  | .non => true | .bl _ => true | .int _ => true | .str _ => true
  | .tup ds => immL ds
  | .lst _ => false | .dK _ => false | .dT _ => false | .hole => false
def immL : List D → Bool
  | [] => true
  | d :: ds => imm d && immL ds
end
mutual
def py : D → PyData
  | .non => .none | .bl b => .bool b | .int i => .int i | .str s => .str s
  | .tup ds => .tuple (pyL ds) | .lst ds => .list (pyL ds)
  | .dK _ => .dict [] | .dT _ => .dict [] | .hole => .dict []
def pyL : List D → List PyData
  | [] => []
  | d :: ds => py d :: pyL ds
end
inductive Slot where
  | none
  | own (d : D) (l : Lv)
abbrev Env := List Slot
def gt (e : Env) (i : Nat) : Slot := e.getD i .none
/-- a value of an expression: a value of its own, or what slot i holds -/
inductive X where
  | tmp (d : D) (l : Lv)
  | ali (i : Nat)
inductive R (α : Type) where
  | ok (a : α) (e : Env)
  | exc (c : Str) (e : Env)
  | stk
def R.bind {α β : Type} (r : R α) (f : α → Env → R β) : R β := match r with
  | .ok a e => f a e
  | .exc c e => .exc c e
  | .stk => .stk
def ofO {α : Type} (o : Option α) (e : Env) : R α := match o with
  | some a => .ok a e
  | none => .stk
def deref (e : Env) : X → Option D
  | .tmp d _ => some d
  | .ali i => match gt e i with
    | .own d _ => some d
    | .none => none
/-- a value kept: what a slot holds is shared from then on -/
def use (e : Env) : X → R (D × Lv)
  | .tmp d l => .ok (d, if imm d then .full else l) e
  | .ali i => match gt e i with
    | .own d l => if imm d then .ok (d, .full) e else .ok (d, .sh) (e.set i (.own d .sh))
    | .none => .stk
/-- the items of a list or a tuple, kept -/
def kids (e : Env) : X → R (List D × Lv)
  | .tmp (.lst ds) l => .ok (ds, if immL ds then .full else l.pred) e
  | .tmp (.tup ds) l => .ok (ds, if immL ds then .full else l.pred) e
  | .tmp _ _ => .stk
  | .ali i => match gt e i with
    | .own (.lst ds) l => if immL ds then .ok (ds, .full) e else .ok (ds, .sh) (e.set i (.own (.lst ds) (if l = .sh then .sh else .top)))
    | .own (.tup ds) l => if immL ds then .ok (ds, .full) e else .ok (ds, .sh) (e.set i (.own (.tup ds) .sh))
    | _ => .stk
def mkL (ds : List D) (k : Lv) : X := .tmp (.lst ds) k.succ
def mkT (ds : List D) (k : Lv) : X := .tmp (.tup ds) k
def lmin : Lv → Lv → Lv
  | .full, .full => .full
  | _, _ => .sh
/-- what the items of a display have in common -/
def lall : List (D × Lv) → Lv
  | [] => .full
  | (_, l) :: r => lmin l (lall r)
def im (d : D) : X := .tmp d .full
/-! ### operations -/
inductive Op2 where | add | sub | mul | fdiv | mod | pow | shl | shr | band
  deriving DecidableEq
inductive Cm where | eq | ne | lt | le | gt | ge | isin | notin
  deriving DecidableEq
instance (i j : Int) : Decidable (CMul i j) := inferInstanceAs (Decidable (_ ∨ _))
instance (i j : Int) : Decidable (CDivW i j) := inferInstanceAs (Decidable (_ ∧ _))
instance (i j : Int) : Decidable (CPow i j) := inferInstanceAs (Decidable (_ ∧ _ ∧ _))
instance (i j : Int) : Decidable (CMulW i j) := inferInstanceAs (Decidable (_ < _))
/-- ** of a great number -/
def CPowW (i j : Int) : Prop := 0 ≤ j ∧ ((i.natAbs.log2 + 1 : Nat) : Int) * j ≤ 134217728
instance (i j : Int) : Decidable (CPowW i j) := inferInstanceAs (Decidable (_ ∧ _))
instance (i j : Int) : Decidable (CDiv i j) := inferInstanceAs (Decidable (_ ∧ _))
def opI : Op2 → Int → Int → Option Int
  | .add, i, j => some (i + j)
  | .sub, i, j => some (i - j)
  | .mul, i, j => if CMul i j then some (i * j) else if CMulW i j then some (i * j) else none
  | .fdiv, i, j => if CDiv i j then some (i / j) else if CDivW i j then some (i / j) else none
  | .mod, i, j => if 0 < j then some (i % j) else none
  | .pow, i, j => if CPow i j then some (i ^ j.toNat) else if CPowW i j then some (i ^ j.toNat) else none
  | .shl, i, j => if CPow i j then some (i * 2 ^ j.toNat) else none
  | .shr, i, j => if 0 ≤ j then some (i / 2 ^ j.toNat) else none
  | .band, i, j => some (Builtin.bitAnd i j)
def ownT : X → Bool
  | .tmp _ l => l != .sh
  | _ => false
def opX (o : Op2) (x y : X) (e : Env) : R X :=
  match o, deref e x, deref e y with
  | o, some (.int i), some (.int j) => ofO ((opI o i j).map fun k => im (.int k)) e
  | .add, some (.str a), some (.str b) => if a.length + b.length ≤ sizeLine then .ok (im (.str (a ++ b))) e else .stk
  | .add, some (.lst _), some (.lst _) => (kids e x).bind fun p e1 => (kids e1 y).bind fun q e2 =>
      if p.1.length + q.1.length ≤ sizeLine then .ok (mkL (p.1 ++ q.1) (lmin p.2 q.2)) e2 else .stk
  | .add, some (.tup _), some (.tup _) => (kids e x).bind fun p e1 => (kids e1 y).bind fun q e2 =>
      if p.1.length + q.1.length ≤ sizeLine then .ok (mkT (p.1 ++ q.1) (lmin p.2 q.2)) e2 else .stk
  | .mul, some (.lst ds), some (.int k) => if ownT x = true ∧ immL ds ∧ -(2 ^ 63) ≤ k ∧ k < 2 ^ 63 ∧ ds.length * k.toNat ≤ sizeLine then
      .ok (mkL ((List.replicate k.toNat ds).flatten) .full) e else .stk
  | _, _, _ => .stk
def shapedD (d : D) : Bool := SeqAt.shaped (py d)
def cmpI : Cm → Int → Int → Option Bool
  | .eq, i, j => some (i == j)
  | .ne, i, j => some (i != j)
  | .lt, i, j => some (decide (i < j))
  | .le, i, j => some (decide (i ≤ j))
  | .gt, i, j => some (decide (j < i))
  | .ge, i, j => some (decide (j ≤ i))
  | _, _, _ => none
def dlookK (k : Key) : List (Key × D) → Option D
  | [] => none
  | (j, d) :: r => if j = k then some d else dlookK k r
def dputK (k : Key) (d : D) (kvs : List (Key × D)) : List (Key × D) :=
  if (kvs.any fun kv => decide (kv.1 = k)) = true then kvs.map (fun kv => if kv.1 = k then (kv.1, d) else kv) else kvs ++ [(k, d)]
def cmpD (o : Cm) (a b : D) : Option Bool :=
  match o, a, b with
  | .isin, .int k, .dK kvs => some (dlookK (.inl k) kvs).isSome
  | .notin, .int k, .dK kvs => some (!(dlookK (.inl k) kvs).isSome)
  | .isin, .str k, .dK kvs => some (dlookK (.inr k) kvs).isSome
  | .notin, .str k, .dK kvs => some (!(dlookK (.inr k) kvs).isSome)
  | .isin, d, .lst ds => if shapedD d && shapedD (.lst ds) then some (ds.any fun z => PyData.eqv (py z) (py d)) else none
  | .notin, d, .lst ds => if shapedD d && shapedD (.lst ds) then some (!ds.any fun z => PyData.eqv (py z) (py d)) else none
  | .isin, d, .tup ds => if shapedD d && shapedD (.tup ds) then some (ds.any fun z => PyData.eqv (py z) (py d)) else none
  | .notin, d, .tup ds => if shapedD d && shapedD (.tup ds) then some (!ds.any fun z => PyData.eqv (py z) (py d)) else none
  | .lt, .int i, .int j => some (decide (i < j))
  | .le, .int i, .int j => some (decide (i ≤ j))
  | .gt, .int i, .int j => some (decide (j < i))
  | .ge, .int i, .int j => some (decide (j ≤ i))
  | .eq, a, b => if shapedD a && shapedD b then some (PyData.eqv (py a) (py b)) else none
  | .ne, a, b => if shapedD a && shapedD b then some (!PyData.eqv (py a) (py b)) else none
  | _, _, _ => none
end VI
namespace VI
open PySem PySem.Spec PyProof.Rows L2

/-! ### footprints -/
abbrev FP := Addr → Nat
def fz : FP := fun _ => 0
def fo (a : Addr) : FP := fun b => if b = a then 1 else 0
def fa (f g : FP) : FP := fun a => f a + g a
@[simp] theorem fz_at (a : Addr) : fz a = 0 := rfl
@[simp] theorem fa_at (f g : FP) (a : Addr) : fa f g a = f a + g a := rfl
theorem fo_same (a : Addr) : fo a a = 1 := by simp [fo]
theorem fo_at (a b : Addr) : fo a b = if b = a then 1 else 0 := rfl
theorem fa_z (f : FP) : fa f fz = f := funext fun _ => rfl
theorem fz_a (f : FP) : fa fz f = f := funext fun a => by simp
theorem fa_comm (f g : FP) : fa f g = fa g f := funext fun a => by simp [Nat.add_comm]
theorem fa_assoc (f g h : FP) : fa (fa f g) h = fa f (fa g h) := funext fun a => by simp [Nat.add_assoc]

/-! ### a value of the heap stands for a datum -/
mutual
def RepD (H : Hp) (P : Addr → Prop) : D → Lv → V → FP → Prop
  | .non, _, v, f => v = .non ∧ f = fz
  | .bl b, _, v, f => v = .bl b ∧ f = fz
  | .int i, _, v, f => v = .int i ∧ f = fz
  | .str s, _, v, f => v = .str s ∧ f = fz
  | .tup ds, l, v, f => ∃ a xs, v = .ref a ∧ Rd H a (.tup xs) ∧ RepL H P ds l.pred xs f
  | .lst ds, l, v, f => ∃ a xs g, v = .ref a ∧ RepL H P ds l.pred xs g ∧
      ((l = .sh ∧ P a ∧ Rd H a (.lst xs) ∧ f = g) ∨ (l ≠ .sh ∧ H a = some (.lst xs) ∧ f = fa (fo a) g))
  | .dK kvs, l, v, f => ∃ a xs g, v = .ref a ∧ RepK H P kvs l.pred xs g ∧
      ((l = .sh ∧ P a ∧ H a = some (.dK xs) ∧ f = g) ∨ (l ≠ .sh ∧ H a = some (.dK xs) ∧ f = fa (fo a) g))
  | .dT kvs, l, v, f => ∃ a xs g, v = .ref a ∧ RepT H P kvs l.pred xs g ∧
      ((l = .sh ∧ P a ∧ H a = some (.dT xs) ∧ f = g) ∨ (l ≠ .sh ∧ H a = some (.dT xs) ∧ f = fa (fo a) g))
  | .hole, _, _, f => f = fz
def RepL (H : Hp) (P : Addr → Prop) : List D → Lv → List V → FP → Prop
  | [], _, xs, f => xs = [] ∧ f = fz
  | d :: ds, l, xs, f => ∃ v r f1 f2, xs = v :: r ∧ RepD H P d l v f1 ∧ RepL H P ds l r f2 ∧ f = fa f1 f2
def RepK (H : Hp) (P : Addr → Prop) : List (Key × D) → Lv → List (Key × V) → FP → Prop
  | [], _, xs, f => xs = [] ∧ f = fz
  | (k, d) :: ds, l, xs, f => ∃ v r f1 f2, xs = (k, v) :: r ∧ RepD H P d l v f1 ∧ RepK H P ds l r f2 ∧ f = fa f1 f2
def RepT (H : Hp) (P : Addr → Prop) : List (List Key × D) → Lv → List (List Key × V) → FP → Prop
  | [], _, xs, f => xs = [] ∧ f = fz
  | (k, d) :: ds, l, xs, f => ∃ v r f1 f2, xs = (k, v) :: r ∧ RepD H P d l v f1 ∧ RepT H P ds l r f2 ∧ f = fa f1 f2
end

/-- what a data's standing leans on, in another heap -/
structure Car (H H' : Hp) (P P' : Addr → Prop) (f : FP) : Prop where
  own : ∀ a o, 1 ≤ f a → H a = some o → H' a = some o
  shr : ∀ a o, P a → H a = some o → H' a = some o
  tup : ∀ a xs, Rd H a (.tup xs) → Rd H' a (.tup xs)
  par : ∀ a, P a → P' a
theorem Car.mono {H H' : Hp} {P P' : Addr → Prop} {f g : FP} (c : Car H H' P P' f) (h : ∀ a, g a ≤ f a) : Car H H' P P' g :=
  ⟨fun a o z => c.own a o (Nat.le_trans z (h a)), c.shr, c.tup, c.par⟩
theorem rd_car {H H' : Hp} {a : Addr} {u : HO} (h : ∀ o, H a = some o → H' a = some o) (r : Rd H a u) : Rd H' a u := by
  rcases r with r | ⟨o, r⟩
  · exact .inl (h _ r)
  · exact .inr ⟨o, h _ r⟩
mutual
theorem RepD.car {H H' : Hp} {P P' : Addr → Prop} : ∀ {d : D} {l : Lv} {v : V} {f : FP}, Car H H' P P' f → RepD H P d l v f → RepD H' P' d l v f
  | .non, _, _, _, _, h => h
  | .bl _, _, _, _, _, h => h
  | .int _, _, _, _, _, h => h
  | .str _, _, _, _, _, h => h
  | .hole, _, _, _, _, h => h
  | .tup ds, l, v, f, c, h => by
    obtain ⟨a, xs, e, r, q⟩ := h
    exact ⟨a, xs, e, c.tup a xs r, RepL.car c q⟩
  | .lst ds, l, v, f, c, h => by
    obtain ⟨a, xs, g, e, q, z⟩ := h
    rcases z with ⟨e1, e2, e3, e4⟩ | ⟨e1, e3, e4⟩
    · subst e4
      exact ⟨a, xs, f, e, RepL.car c q, .inl ⟨e1, c.par a e2, rd_car (fun o => c.shr a o e2) e3, rfl⟩⟩
    · subst e4
      exact ⟨a, xs, g, e, RepL.car (c.mono fun b => by simp) q, .inr ⟨e1, c.own a _ (by simp [fo_same]) e3, rfl⟩⟩
  | .dK ds, l, v, f, c, h => by
    obtain ⟨a, xs, g, e, q, z⟩ := h
    rcases z with ⟨e1, e2, e3, e4⟩ | ⟨e1, e3, e4⟩
    · subst e4
      exact ⟨a, xs, f, e, RepK.car c q, .inl ⟨e1, c.par a e2, c.shr a _ e2 e3, rfl⟩⟩
    · subst e4
      exact ⟨a, xs, g, e, RepK.car (c.mono fun b => by simp) q, .inr ⟨e1, c.own a _ (by simp [fo_same]) e3, rfl⟩⟩
  | .dT ds, l, v, f, c, h => by
    obtain ⟨a, xs, g, e, q, z⟩ := h
    rcases z with ⟨e1, e2, e3, e4⟩ | ⟨e1, e3, e4⟩
    · subst e4
      exact ⟨a, xs, f, e, RepT.car c q, .inl ⟨e1, c.par a e2, c.shr a _ e2 e3, rfl⟩⟩
    · subst e4
      exact ⟨a, xs, g, e, RepT.car (c.mono fun b => by simp) q, .inr ⟨e1, c.own a _ (by simp [fo_same]) e3, rfl⟩⟩
theorem RepL.car {H H' : Hp} {P P' : Addr → Prop} : ∀ {d : List D} {l : Lv} {v : List V} {f : FP}, Car H H' P P' f → RepL H P d l v f → RepL H' P' d l v f
  | [], _, _, _, _, h => h
  | d :: ds, l, v, f, c, h => by
    obtain ⟨x, r, f1, f2, e, h1, h2, e2⟩ := h
    subst e2
    exact ⟨x, r, f1, f2, e, RepD.car (c.mono fun b => by simp) h1, RepL.car (c.mono fun b => by simp) h2, rfl⟩
theorem RepK.car {H H' : Hp} {P P' : Addr → Prop} : ∀ {d : List (Key × D)} {l : Lv} {v : List (Key × V)} {f : FP}, Car H H' P P' f → RepK H P d l v f → RepK H' P' d l v f
  | [], _, _, _, _, h => h
  | (k, d) :: ds, l, v, f, c, h => by
    obtain ⟨x, r, f1, f2, e, h1, h2, e2⟩ := h
    subst e2
    exact ⟨x, r, f1, f2, e, RepD.car (c.mono fun b => by simp) h1, RepK.car (c.mono fun b => by simp) h2, rfl⟩
theorem RepT.car {H H' : Hp} {P P' : Addr → Prop} : ∀ {d : List (List Key × D)} {l : Lv} {v : List (List Key × V)} {f : FP}, Car H H' P P' f → RepT H P d l v f → RepT H' P' d l v f
  | [], _, _, _, _, h => h
  | (k, d) :: ds, l, v, f, c, h => by
    obtain ⟨x, r, f1, f2, e, h1, h2, e2⟩ := h
    subst e2
    exact ⟨x, r, f1, f2, e, RepD.car (c.mono fun b => by simp) h1, RepT.car (c.mono fun b => by simp) h2, rfl⟩
end

mutual
/-- data without mutable parts stands at every level, and owns nothing -/
theorem RepD.imm {H : Hp} {P P' : Addr → Prop} : ∀ {d : D} {l : Lv} {v : V} {f : FP} (l' : Lv), VI.imm d = true → RepD H P d l v f → f = fz ∧ RepD H P' d l' v fz
  | .non, _, _, _, _, _, h => ⟨h.2, h.1, rfl⟩
  | .bl _, _, _, _, _, _, h => ⟨h.2, h.1, rfl⟩
  | .int _, _, _, _, _, _, h => ⟨h.2, h.1, rfl⟩
  | .str _, _, _, _, _, _, h => ⟨h.2, h.1, rfl⟩
  | .tup ds, l, v, f, l', i, h => by
    obtain ⟨a, xs, e, r, q⟩ := h
    obtain ⟨e2, q2⟩ := RepL.imm (P' := P') l'.pred (by simpa [VI.imm] using i) q
    exact ⟨e2, a, xs, e, r, q2⟩
  | .lst _, _, _, _, _, i, _ => by simp [VI.imm] at i
  | .dK _, _, _, _, _, i, _ => by simp [VI.imm] at i
  | .dT _, _, _, _, _, i, _ => by simp [VI.imm] at i
  | .hole, _, _, _, _, i, _ => by simp [VI.imm] at i
theorem RepL.imm {H : Hp} {P P' : Addr → Prop} : ∀ {d : List D} {l : Lv} {v : List V} {f : FP} (l' : Lv), VI.immL d = true → RepL H P d l v f → f = fz ∧ RepL H P' d l' v fz
  | [], _, _, _, _, _, h => ⟨h.2, h.1, rfl⟩
  | d :: ds, l, v, f, l', i, h => by
    obtain ⟨x, r, f1, f2, e, h1, h2, e2⟩ := h
    have i' : VI.imm d = true ∧ VI.immL ds = true := by simpa [VI.immL] using i
    obtain ⟨z1, q1⟩ := RepD.imm (P' := P') l' i'.1 h1
    obtain ⟨z2, q2⟩ := RepL.imm (P' := P') l' i'.2 h2
    refine ⟨?_, x, r, fz, fz, e, q1, q2, rfl⟩
    rw [e2, z1, z2]; rfl
end
mutual
/-- made shared: all that it owned is shared then -/
theorem RepD.shr {H : Hp} {P P' : Addr → Prop} (hp : ∀ a, P a → P' a) : ∀ {d : D} {l : Lv} {v : V} {f : FP}, (∀ a, 1 ≤ f a → P' a) → RepD H P d l v f → RepD H P' d .sh v fz
  | .non, _, _, _, _, h => ⟨h.1, rfl⟩
  | .bl _, _, _, _, _, h => ⟨h.1, rfl⟩
  | .int _, _, _, _, _, h => ⟨h.1, rfl⟩
  | .str _, _, _, _, _, h => ⟨h.1, rfl⟩
  | .hole, _, _, _, _, h => rfl
  | .tup ds, l, v, f, c, h => by
    obtain ⟨a, xs, e, r, q⟩ := h
    exact ⟨a, xs, e, r, RepL.shr hp c q⟩
  | .lst ds, l, v, f, c, h => by
    obtain ⟨a, xs, g, e, q, z⟩ := h
    rcases z with ⟨e1, e2, e3, e4⟩ | ⟨e1, e3, e4⟩
    · subst e4
      exact ⟨a, xs, fz, e, RepL.shr hp c q, .inl ⟨rfl, hp a e2, e3, rfl⟩⟩
    · subst e4
      exact ⟨a, xs, fz, e, RepL.shr hp (fun b z => c b (by simp; omega)) q, .inl ⟨rfl, c a (by simp [fo_same]), .inl e3, rfl⟩⟩
  | .dK ds, l, v, f, c, h => by
    obtain ⟨a, xs, g, e, q, z⟩ := h
    rcases z with ⟨e1, e2, e3, e4⟩ | ⟨e1, e3, e4⟩
    · subst e4
      exact ⟨a, xs, fz, e, RepK.shr hp c q, .inl ⟨rfl, hp a e2, e3, rfl⟩⟩
    · subst e4
      exact ⟨a, xs, fz, e, RepK.shr hp (fun b z => c b (by simp; omega)) q, .inl ⟨rfl, c a (by simp [fo_same]), e3, rfl⟩⟩
  | .dT ds, l, v, f, c, h => by
    obtain ⟨a, xs, g, e, q, z⟩ := h
    rcases z with ⟨e1, e2, e3, e4⟩ | ⟨e1, e3, e4⟩
    · subst e4
      exact ⟨a, xs, fz, e, RepT.shr hp c q, .inl ⟨rfl, hp a e2, e3, rfl⟩⟩
    · subst e4
      exact ⟨a, xs, fz, e, RepT.shr hp (fun b z => c b (by simp; omega)) q, .inl ⟨rfl, c a (by simp [fo_same]), e3, rfl⟩⟩
theorem RepL.shr {H : Hp} {P P' : Addr → Prop} (hp : ∀ a, P a → P' a) : ∀ {d : List D} {l : Lv} {v : List V} {f : FP}, (∀ a, 1 ≤ f a → P' a) → RepL H P d l v f → RepL H P' d .sh v fz
  | [], _, _, _, _, h => ⟨h.1, rfl⟩
  | d :: ds, l, v, f, c, h => by
    obtain ⟨x, r, f1, f2, e, h1, h2, e2⟩ := h
    subst e2
    exact ⟨x, r, fz, fz, e, RepD.shr hp (fun b z => c b (by simp; omega)) h1, RepL.shr hp (fun b z => c b (by simp; omega)) h2, rfl⟩
theorem RepK.shr {H : Hp} {P P' : Addr → Prop} (hp : ∀ a, P a → P' a) : ∀ {d : List (Key × D)} {l : Lv} {v : List (Key × V)} {f : FP}, (∀ a, 1 ≤ f a → P' a) → RepK H P d l v f → RepK H P' d .sh v fz
  | [], _, _, _, _, h => ⟨h.1, rfl⟩
  | (k, d) :: ds, l, v, f, c, h => by
    obtain ⟨x, r, f1, f2, e, h1, h2, e2⟩ := h
    subst e2
    exact ⟨x, r, fz, fz, e, RepD.shr hp (fun b z => c b (by simp; omega)) h1, RepK.shr hp (fun b z => c b (by simp; omega)) h2, rfl⟩
theorem RepT.shr {H : Hp} {P P' : Addr → Prop} (hp : ∀ a, P a → P' a) : ∀ {d : List (List Key × D)} {l : Lv} {v : List (List Key × V)} {f : FP}, (∀ a, 1 ≤ f a → P' a) → RepT H P d l v f → RepT H P' d .sh v fz
  | [], _, _, _, _, h => ⟨h.1, rfl⟩
  | (k, d) :: ds, l, v, f, c, h => by
    obtain ⟨x, r, f1, f2, e, h1, h2, e2⟩ := h
    subst e2
    exact ⟨x, r, fz, fz, e, RepD.shr hp (fun b z => c b (by simp; omega)) h1, RepT.shr hp (fun b z => c b (by simp; omega)) h2, rfl⟩
end
/-! ### lists of data by places -/
theorem RepL.len {H : Hp} {P : Addr → Prop} : ∀ {ds : List D} {l : Lv} {xs : List V} {f : FP}, RepL H P ds l xs f → xs.length = ds.length
  | [], _, _, _, h => by rw [h.1]; rfl
  | d :: ds, l, _, _, h => by
    obtain ⟨x, r, f1, f2, e, h1, h2, e2⟩ := h
    rw [e, List.length_cons, List.length_cons, RepL.len h2]
theorem RepL.get {H : Hp} {P : Addr → Prop} : ∀ {ds : List D} {l : Lv} {xs : List V} {f : FP} {i : Nat} {d : D}, RepL H P ds l xs f → ds[i]? = some d → ∃ v g, xs[i]? = some v ∧ RepD H P d l v g ∧ ∀ a, g a ≤ f a
  | [], _, _, _, _, _, h, e => by simp at e
  | d :: ds, l, _, _, 0, _, h, e => by
    obtain ⟨x, r, f1, f2, e1, h1, h2, e2⟩ := h
    subst e1 e2
    simp at e
    subst e
    exact ⟨x, f1, rfl, h1, fun a => by simp⟩
  | d :: ds, l, _, _, i + 1, _, h, e => by
    obtain ⟨x, r, f1, f2, e1, h1, h2, e2⟩ := h
    subst e1 e2
    obtain ⟨v, g, z1, z2, z3⟩ := RepL.get h2 (by simpa using e)
    exact ⟨v, g, by simpa using z1, z2, fun a => Nat.le_trans (z3 a) (by simp)⟩
theorem RepL.app {H : Hp} {P : Addr → Prop} : ∀ {ds es : List D} {l : Lv} {xs ys : List V} {f g : FP}, RepL H P ds l xs f → RepL H P es l ys g → RepL H P (ds ++ es) l (xs ++ ys) (fa f g)
  | [], es, l, xs, ys, f, g, h, h' => by
    obtain ⟨rfl, rfl⟩ := h
    rw [fz_a]; exact h'
  | d :: ds, es, l, xs, ys, f, g, h, h' => by
    obtain ⟨x, r, f1, f2, e, h1, h2, e2⟩ := h
    subst e e2
    exact ⟨x, r ++ ys, f1, fa f2 g, rfl, h1, RepL.app h2 h', fa_assoc _ _ _⟩
theorem RepL.one {H : Hp} {P : Addr → Prop} {d : D} {l : Lv} {v : V} {f : FP} (h : RepD H P d l v f) : RepL H P [d] l [v] f :=
  ⟨v, [], f, fz, rfl, h, ⟨rfl, rfl⟩, (fa_z f).symm⟩
/-- some of them, each at most once -/
theorem RepL.take {H : Hp} {P : Addr → Prop} : ∀ {ds : List D} {l : Lv} {xs : List V} {f : FP} (n : Nat), RepL H P ds l xs f → ∃ g, RepL H P (ds.take n) l (xs.take n) g ∧ ∀ a, g a ≤ f a
  | [], _, _, _, n, h => by obtain ⟨rfl, rfl⟩ := h; rw [List.take_nil, List.take_nil]; exact ⟨fz, ⟨rfl, rfl⟩, fun _ => Nat.le_refl _⟩
  | _ :: _, _, _, _, 0, _ => ⟨fz, ⟨rfl, rfl⟩, fun _ => Nat.zero_le _⟩
  | d :: ds, l, _, _, n + 1, h => by
    obtain ⟨x, r, f1, f2, e, h1, h2, e2⟩ := h
    subst e e2
    obtain ⟨g, q, z⟩ := RepL.take n h2
    exact ⟨fa f1 g, ⟨x, r.take n, f1, g, rfl, h1, q, rfl⟩, fun a => by have := z a; simp; omega⟩
theorem RepL.drop {H : Hp} {P : Addr → Prop} : ∀ {ds : List D} {l : Lv} {xs : List V} {f : FP} (n : Nat), RepL H P ds l xs f → ∃ g, RepL H P (ds.drop n) l (xs.drop n) g ∧ ∀ a, g a ≤ f a
  | [], _, _, _, n, h => by obtain ⟨rfl, rfl⟩ := h; rw [List.drop_nil, List.drop_nil]; exact ⟨fz, ⟨rfl, rfl⟩, fun _ => Nat.le_refl _⟩
  | d :: ds, l, xs, f, 0, h => ⟨f, h, fun _ => Nat.le_refl _⟩
  | d :: ds, l, _, _, n + 1, h => by
    obtain ⟨x, r, f1, f2, e, h1, h2, e2⟩ := h
    subst e e2
    obtain ⟨g, q, z⟩ := RepL.drop n h2
    exact ⟨g, q, fun a => by have := z a; simp; omega⟩
theorem RepL.set {H : Hp} {P : Addr → Prop} : ∀ {ds : List D} {l : Lv} {xs : List V} {f : FP} {i : Nat} {d : D} {v : V} {g : FP}, RepL H P ds l xs f → i < ds.length → RepD H P d l v g →
    ∃ h, RepL H P (ds.set i d) l (xs.set i v) h ∧ ∀ a, h a ≤ f a + g a
  | [], _, _, _, _, _, _, _, _, hi, _ => by simp at hi
  | d :: ds, l, _, _, 0, d', v', g, h, hi, q => by
    obtain ⟨x, r, f1, f2, e, h1, h2, e2⟩ := h
    subst e e2
    exact ⟨fa g f2, ⟨v', r, g, f2, rfl, q, h2, rfl⟩, fun a => by simp; omega⟩
  | d :: ds, l, _, _, i + 1, d', v', g, h, hi, q => by
    obtain ⟨x, r, f1, f2, e, h1, h2, e2⟩ := h
    subst e e2
    obtain ⟨h', z1, z2⟩ := RepL.set h2 (by simpa using hi) q
    exact ⟨fa f1 h', ⟨x, r.set i v', f1, h', rfl, h1, z1, rfl⟩, fun a => by have := z2 a; simp; omega⟩

/-! ### slots -/
def Rels (H : Hp) (P : Addr → Prop) : L2.St → Env → List FP → Prop
  | [], [], [] => True
  | _ :: σ, .none :: e, f :: F => f = fz ∧ Rels H P σ e F
  | some v :: σ, .own d l :: e, f :: F => RepD H P d l v f ∧ Rels H P σ e F
  | _, _, _ => False
def tot : List FP → FP
  | [] => fz
  | f :: F => fa f (tot F)
/-- from heap to heap: T owned ahead, T' behind -/
structure Stp (H : Hp) (P : Addr → Prop) (T : FP) (H' : Hp) (P' : Addr → Prop) (T' : FP) : Prop where
  keep : ∀ a o, H a = some o → T a = 0 → H' a = some o
  tups : ∀ a xs, Rd H a (.tup xs) → Rd H' a (.tup xs)
  newP : ∀ a, P' a → P a ∨ 1 ≤ T a ∨ H a = none
  oldP : ∀ a, P a → P' a
  newT : ∀ a, 1 ≤ T' a → 1 ≤ T a ∨ H a = none
  dom : ∀ a, H a ≠ none → H' a ≠ none
theorem Stp.refl (H : Hp) (P : Addr → Prop) (T : FP) : Stp H P T H P T := ⟨fun _ _ h _ => h, fun _ _ h => h, fun _ h => .inl h, fun _ h => h, fun _ h => .inl h, fun _ h => h⟩
theorem Stp.trans {H H1 H2 : Hp} {P P1 P2 : Addr → Prop} {T T1 T2 : FP} (a : Stp H P T H1 P1 T1) (b : Stp H1 P1 T1 H2 P2 T2) : Stp H P T H2 P2 T2 where
  keep := fun x o h z => by
    have h1 := a.keep x o h z
    refine b.keep x o h1 (Nat.eq_zero_of_not_pos fun q => ?_)
    rcases a.newT x q with r | r
    · omega
    · rw [h] at r; cases r
  tups := fun x xs h => b.tups x xs (a.tups x xs h)
  newP := fun x h => by
    rcases b.newP x h with r | r | r
    · exact a.newP x r
    · rcases a.newT x r with q | q
      · exact .inr (.inl q)
      · exact .inr (.inr q)
    · refine .inr (.inr ?_)
      cases e : H x with
      | none => rfl
      | some o => exact absurd r (a.dom x (by rw [e]; simp))
  oldP := fun x h => b.oldP x (a.oldP x h)
  newT := fun x h => by
    rcases b.newT x h with r | r
    · exact a.newT x r
    · refine .inr ?_
      cases e : H x with
      | none => rfl
      | some o => exact absurd r (a.dom x (by rw [e]; simp))
  dom := fun x h => b.dom x (a.dom x h)
/-- what else is owned meanwhile -/
def Frm (g : FP) (H : Hp) (P : Addr → Prop) (T : FP) : Prop := ∀ a, 1 ≤ g a → g a = 1 ∧ T a = 0 ∧ ¬ P a ∧ H a ≠ none
theorem Stp.frm {H H' : Hp} {P P' : Addr → Prop} {T T' g : FP} (s : Stp H P T H' P' T') (h : Frm g H P T) : Frm g H' P' T' := fun a z => by
  obtain ⟨h1, h2, h3, h4⟩ := h a z
  refine ⟨h1, Nat.eq_zero_of_not_pos fun q => ?_, fun q => ?_, s.dom a h4⟩
  · rcases s.newT a q with r | r
    · omega
    · exact h4 r
  · rcases s.newP a q with r | r | r
    · exact h3 r
    · omega
    · exact h4 r
/-- the step with more owned beside -/
theorem Stp.wide {H H' : Hp} {P P' : Addr → Prop} {T T' : FP} (g : FP) (s : Stp H P T H' P' T') : Stp H P (fa T g) H' P' (fa T' g) where
  keep := fun a o h z => s.keep a o h (by simp at z; omega)
  tups := s.tups
  newP := fun a h => by
    rcases s.newP a h with r | r | r
    · exact .inl r
    · exact .inr (.inl (by simp; omega))
    · exact .inr (.inr r)
  oldP := s.oldP
  newT := fun a h => by
    have h' : 1 ≤ T' a + g a := h
    by_cases q : 1 ≤ g a
    · exact .inl (by simp; omega)
    · rcases s.newT a (by omega) with r | r
      · exact .inl (by simp; omega)
      · exact .inr r
  dom := s.dom
/-- .. where less is owned at the end, more at the start -/
theorem Stp.mono {H H' : Hp} {P P' : Addr → Prop} {T T' S S' : FP} (s : Stp H P T H' P' T') (h : ∀ a, T a ≤ S a) (h' : ∀ a, S' a ≤ T' a) : Stp H P S H' P' S' where
  keep := fun a o q z => s.keep a o q (by have := h a; omega)
  tups := s.tups
  newP := fun a q => by
    rcases s.newP a q with r | r | r
    · exact .inl r
    · exact .inr (.inl (Nat.le_trans r (h a)))
    · exact .inr (.inr r)
  oldP := s.oldP
  newT := fun a q => by
    rcases s.newT a (Nat.le_trans q (h' a)) with r | r
    · exact .inl (Nat.le_trans r (h a))
    · exact .inr r
  dom := s.dom
structure St0 (σ : L2.St) (e : Env) (H : Hp) (P : Addr → Prop) (F : List FP) : Prop where
  rel : Rels H P σ e F
  one : ∀ a, tot F a ≤ 1
  sep : ∀ a, P a → tot F a = 0
  inP : ∀ a, P a → H a ≠ none
  inT : ∀ a, 1 ≤ tot F a → H a ≠ none
theorem Stp.car {H H' : Hp} {P P' : Addr → Prop} {T T' g : FP} (s : Stp H P T H' P' T') (h : Frm g H P T) (hp : ∀ a, P a → T a = 0) : Car H H' P P' g :=
  ⟨fun a o z e => s.keep a o e (h a z).2.1, fun a o z e => s.keep a o e (hp a z), s.tups, s.oldP⟩
/-- a value of an expression -/
def RX (σ : L2.St) (H : Hp) (P : Addr → Prop) : X → V → FP → Prop
  | .tmp d l, v, f => RepD H P d l v f
  | .ali i, v, f => σ[i]? = some (some v) ∧ f = fz
theorem RX.car {σ : L2.St} {H H' : Hp} {P P' : Addr → Prop} {x : X} {v : V} {f : FP} (c : Car H H' P P' f) (h : RX σ H P x v f) : RX σ H' P' x v f := by
  cases x with
  | tmp d l => exact RepD.car c h
  | ali i => exact h
end VI
namespace VI
open PySem PySem.Spec PyProof.Rows L2

/-! ### slots by places -/
theorem tot_set : ∀ {F : List FP} {i : Nat} {f : FP} (g : FP) (a : Addr), F[i]? = some f → tot (F.set i g) a + f a = tot F a + g a
  | [], _, _, _, _, h => by simp at h
  | f :: F, 0, _, g, a, h => by simp at h; subst h; simp [tot]; omega
  | f :: F, i + 1, h', g, a, h => by
    have := tot_set (F := F) g a (by simpa using h)
    simp [tot]; omega
theorem tot_le : ∀ {F : List FP} {i : Nat} {f : FP} (a : Addr), F[i]? = some f → f a ≤ tot F a
  | [], _, _, _, h => by simp at h
  | f :: F, 0, _, a, h => by simp at h; subst h; simp [tot]
  | f :: F, i + 1, h', a, h => by
    have := tot_le (F := F) a (by simpa using h)
    simp [tot]; omega
theorem gt_own {e : Env} {i : Nat} {d : D} {l : Lv} (h : gt e i = .own d l) : e[i]? = some (.own d l) := by
  unfold gt at h
  rw [List.getD_eq_getElem?_getD] at h
  cases q : e[i]? with
  | none => rw [q] at h; cases h
  | some s => rw [q] at h; exact congrArg some h
theorem gt_of {e : Env} {i : Nat} {s : Slot} (h : e[i]? = some s) : gt e i = s := by
  unfold gt
  rw [List.getD_eq_getElem?_getD, h]; rfl
section
variable {H : Hp} {P : Addr → Prop}
theorem Rels.len : ∀ {σ : L2.St} {e : Env} {F : List FP}, Rels H P σ e F → σ.length = e.length ∧ F.length = e.length
  | [], [], [], _ => ⟨rfl, rfl⟩
  | _ :: _, .none :: _, _ :: _, h => by
    have := Rels.len h.2
    simp [this.1, this.2]
  | some _ :: _, .own _ _ :: _, _ :: _, h => by
    have := Rels.len h.2
    simp [this.1, this.2]
  | none :: _, .own _ _ :: _, _, h => by cases h
  | _ :: _, _ :: _, [], h => by simp [Rels] at h
  | _ :: _, [], _, h => by simp [Rels] at h
  | [], _ :: _, _, h => by simp [Rels] at h
  | [], [], _ :: _, h => by simp [Rels] at h
theorem Rels.get : ∀ {σ : L2.St} {e : Env} {F : List FP} {i : Nat} {d : D} {l : Lv}, Rels H P σ e F → e[i]? = some (.own d l) → ∃ v f, σ[i]? = some (some v) ∧ F[i]? = some f ∧ RepD H P d l v f
  | [], [], _, _, _, _, _, q => by simp at q
  | [], _ :: _, _, _, _, _, h, _ => by simp [Rels] at h
  | _ :: _, [], _, _, _, _, h, _ => by simp [Rels] at h
  | _ :: _, _ :: _, [], _, _, _, h, _ => by simp [Rels] at h
  | o :: σ, .none :: e, f :: F, 0, d, l, h, q => by simp at q
  | o :: σ, .none :: e, f :: F, i + 1, d, l, h, q => by
    obtain ⟨v, g, z⟩ := Rels.get (i := i) h.2 (by simpa using q)
    exact ⟨v, g, by simpa using z⟩
  | none :: σ, .own _ _ :: e, f :: F, _, d, l, h, q => by cases h
  | some v :: σ, .own _ _ :: e, f :: F, 0, d, l, h, q => by
    simp at q
    obtain ⟨rfl, rfl⟩ := q
    exact ⟨v, f, rfl, rfl, h.1⟩
  | some v :: σ, .own _ _ :: e, f :: F, i + 1, d, l, h, q => by
    obtain ⟨v, g, z⟩ := Rels.get (i := i) h.2 (by simpa using q)
    exact ⟨v, g, by simpa using z⟩
theorem Rels.zero : ∀ {σ : L2.St} {e : Env} {F : List FP} {i : Nat}, Rels H P σ e F → e[i]? = some .none → F[i]? = some fz
  | [], [], _, _, _, q => by simp at q
  | [], _ :: _, _, _, h, _ => by simp [Rels] at h
  | _ :: _, [], _, _, h, _ => by simp [Rels] at h
  | _ :: _, _ :: _, [], _, h, _ => by simp [Rels] at h
  | o :: σ, .none :: e, f :: F, 0, h, q => by rw [h.1]; rfl
  | o :: σ, .none :: e, f :: F, i + 1, h, q => by simpa using Rels.zero (i := i) h.2 (by simpa using q)
  | none :: σ, .own _ _ :: e, f :: F, _, h, q => by cases h
  | some v :: σ, .own _ _ :: e, f :: F, 0, h, q => by simp at q
  | some v :: σ, .own _ _ :: e, f :: F, i + 1, h, q => by simpa using Rels.zero (i := i) h.2 (by simpa using q)
theorem Rels.at {σ : L2.St} {e : Env} {F : List FP} {i : Nat} (h : Rels H P σ e F) (hi : i < e.length) : ∃ f, F[i]? = some f := by
  have := h.len.2
  exact ⟨F[i], List.getElem?_eq_getElem (by omega)⟩
/-- slot i gets another datum, its value in the frame v -/
theorem Rels.put : ∀ {σ : L2.St} {e : Env} {F : List FP} {i : Nat} {d : D} {l : Lv} {v : V} {g : FP}, Rels H P σ e F → i < e.length → RepD H P d l v g →
    Rels H P (σ.set i (some v)) (e.set i (.own d l)) (F.set i g)
  | [], [], _, _, _, _, _, _, _, hi, _ => by simp at hi
  | [], _ :: _, _, _, _, _, _, _, h, _, _ => by simp [Rels] at h
  | _ :: _, [], _, _, _, _, _, _, h, _, _ => by simp [Rels] at h
  | _ :: _, _ :: _, [], _, _, _, _, _, h, _, _ => by simp [Rels] at h
  | o :: σ, .none :: e, f :: F, 0, d, l, v, g, h, hi, q => ⟨q, h.2⟩
  | o :: σ, .none :: e, f :: F, i + 1, d, l, v, g, h, hi, q => ⟨h.1, Rels.put h.2 (by simpa using hi) q⟩
  | none :: σ, .own _ _ :: e, f :: F, _, _, _, _, _, h, _, _ => by cases h
  | some w :: σ, .own _ _ :: e, f :: F, 0, d, l, v, g, h, hi, q => ⟨q, h.2⟩
  | some w :: σ, .own _ _ :: e, f :: F, i + 1, d, l, v, g, h, hi, q => ⟨h.1, Rels.put h.2 (by simpa using hi) q⟩
/-- slot i is forgotten (whatever stands in the frame) -/
theorem Rels.kill : ∀ {σ : L2.St} {e : Env} {F : List FP} {i : Nat} (o : Option V), Rels H P σ e F → Rels H P (σ.set i o) (e.set i .none) (F.set i fz)
  | [], [], [], _, _, _ => trivial
  | [], [], _ :: _, _, _, h => by simp [Rels] at h
  | [], _ :: _, _, _, _, h => by simp [Rels] at h
  | _ :: _, [], _, _, _, h => by simp [Rels] at h
  | _ :: _, _ :: _, [], _, _, h => by simp [Rels] at h
  | o :: σ, .none :: e, f :: F, 0, o', h => ⟨rfl, h.2⟩
  | o :: σ, .none :: e, f :: F, i + 1, o', h => ⟨h.1, Rels.kill o' h.2⟩
  | none :: σ, .own _ _ :: e, f :: F, _, _, h => by cases h
  | some w :: σ, .own _ _ :: e, f :: F, 0, o', h => ⟨rfl, h.2⟩
  | some w :: σ, .own _ _ :: e, f :: F, i + 1, o', h => ⟨h.1, Rels.kill o' h.2⟩
theorem Rels.car {H' : Hp} {P' : Addr → Prop} : ∀ {σ : L2.St} {e : Env} {F : List FP}, Car H H' P P' (tot F) → Rels H P σ e F → Rels H' P' σ e F
  | [], [], [], _, _ => trivial
  | [], [], _ :: _, _, h => by simp [Rels] at h
  | [], _ :: _, _, _, h => by simp [Rels] at h
  | _ :: _, [], _, _, h => by simp [Rels] at h
  | _ :: _, _ :: _, [], _, h => by simp [Rels] at h
  | o :: σ, .none :: e, f :: F, c, h => ⟨h.1, Rels.car (c.mono fun a => by simp [tot]) h.2⟩
  | none :: σ, .own _ _ :: e, f :: F, _, h => by cases h
  | some w :: σ, .own _ _ :: e, f :: F, c, h => ⟨RepD.car (c.mono fun a => by simp [tot]) h.1, Rels.car (c.mono fun a => by simp [tot]) h.2⟩
end
theorem set_get_self {α : Type} {l : List α} {i : Nat} {a : α} (h : l[i]? = some a) : l.set i a = l := by
  apply List.ext_getElem?
  intro j
  by_cases e : i = j
  · subst e
    rw [List.getElem?_set_self (List.getElem?_eq_some_iff.mp h).1, h]
  · rw [List.getElem?_set_ne e]

/-! ### temporaries -/
section
variable {H : Hp} {P : Addr → Prop} {T f g : FP}
theorem Frm.z : Frm fz H P T := fun a h => by simp at h
theorem Frm.left (h : Frm (fa f g) H P T) : Frm f H P (fa T g) := fun a z => by
  obtain ⟨h1, h2, h3, h4⟩ := h a (by simp; omega)
  simp at h1
  exact ⟨by omega, by simp; omega, h3, h4⟩
theorem Frm.right (h : Frm (fa f g) H P T) : Frm g H P (fa T f) := by
  rw [fa_comm] at h; exact h.left
theorem Frm.fst (h : Frm (fa f g) H P T) : Frm f H P T := fun a z => by
  obtain ⟨h1, h2, h3, h4⟩ := h.left a z
  simp at h2
  exact ⟨h1, h2.1, h3, h4⟩
theorem Frm.snd (h : Frm (fa f g) H P T) : Frm g H P T := by
  rw [fa_comm] at h; exact h.fst
theorem Frm.join (hf : Frm f H P T) (hg : Frm g H P (fa T f)) : Frm (fa f g) H P T := fun a z => by
  simp at z
  by_cases q : 1 ≤ g a
  · obtain ⟨h1, h2, h3, h4⟩ := hg a q
    simp at h2
    exact ⟨by simp; omega, h2.1, h3, h4⟩
  · obtain ⟨h1, h2, h3, h4⟩ := hf a (by omega)
    exact ⟨by simp; omega, h2, h3, h4⟩
theorem Frm.mono (h : Frm f H P T) (hg : ∀ a, g a ≤ f a) : Frm g H P T := fun a z => by
  obtain ⟨h1, h2, h3, h4⟩ := h a (Nat.le_trans z (hg a))
  have := hg a
  exact ⟨by omega, h2, h3, h4⟩
theorem Frm.less {T' : FP} (h : Frm f H P T) (ht : ∀ a, T' a ≤ T a) : Frm f H P T' := fun a z => by
  obtain ⟨h1, h2, h3, h4⟩ := h a z
  have := ht a
  exact ⟨h1, by omega, h3, h4⟩
end
/-- made shared: the part s of T -/
def pAdd (P : Addr → Prop) (s : FP) : Addr → Prop := fun a => P a ∨ 1 ≤ s a
theorem Stp.share {H : Hp} {P : Addr → Prop} {T s T' : FP} (h : ∀ a, s a ≤ T a) (h' : ∀ a, T' a ≤ T a) : Stp H P T H (pAdd P s) T' where
  keep := fun _ _ h _ => h
  tups := fun _ _ h => h
  newP := fun a z => z.elim .inl fun z => .inr (.inl (Nat.le_trans z (h a)))
  oldP := fun _ h => .inl h
  newT := fun a z => .inl (Nat.le_trans z (h' a))
  dom := fun _ h => h
/-- slot i shared -/
theorem St0.freeze {σ : L2.St} {e : Env} {H : Hp} {P : Addr → Prop} {F : List FP} {i : Nat} {d : D} {l' : Lv} {f g : FP} {v : V} (S : St0 σ e H P F) (hs : σ[i]? = some (some v)) (hf : F[i]? = some f) (s : FP)
    (hsf : ∀ a, s a + g a = f a) (q : RepD H (pAdd P s) d l' v g) (hi : i < e.length) :
    St0 σ (e.set i (.own d l')) H (pAdd P s) (F.set i g) ∧ Stp H P (tot F) H (pAdd P s) (tot (F.set i g)) ∧ ∀ a, tot (F.set i g) a + s a = tot F a := by
  have ts : ∀ a, tot (F.set i g) a + s a = tot F a := fun a => by
    have := tot_set g a hf
    have := hsf a
    omega
  have st : Stp H P (tot F) H (pAdd P s) (tot (F.set i g)) := .share (fun a => by have := ts a; omega) fun a => by have := ts a; omega
  refine ⟨⟨?_, fun a => by have := ts a; have := S.one a; omega, fun a z => ?_, fun a z => ?_, fun a z => S.inT a (by have := ts a; omega)⟩, st, ts⟩
  · have c : Car H H P (pAdd P s) (tot F) := ⟨fun _ _ _ h => h, fun _ _ _ h => h, fun _ _ h => h, fun _ h => .inl h⟩
    have := Rels.put (Rels.car c S.rel) hi q
    rwa [set_get_self hs] at this
  · have := ts a
    have := S.one a
    rcases z with z | z
    · have := S.sep a z; omega
    · omega
  · rcases z with z | z
    · exact S.inP a z
    · exact S.inT a (by have := ts a; omega)
end VI
namespace VI
open PySem PySem.Spec PyProof.Rows L2
section
variable {σ : L2.St} {e e' : Env} {H : Hp} {P : Addr → Prop} {F : List FP} {x : X} {v : V} {f : FP} {d : D} {l : Lv}
theorem St0.ali (S : St0 σ e H P F) {i : Nat} (hs : σ[i]? = some (some v)) (h : gt e i = .own d l) : ∃ f, F[i]? = some f ∧ RepD H P d l v f ∧ i < e.length := by
  have q := gt_own h
  obtain ⟨v', f, h1, h2, h3⟩ := S.rel.get q
  rw [hs] at h1
  cases h1
  exact ⟨f, h2, h3, (List.getElem?_eq_some_iff.mp q).1⟩
mutual
theorem RepD.sh_z : ∀ (d : D) (v : V) (f : FP), RepD H P d .sh v f → f = fz
  | .non, _, _, h => h.2
  | .bl _, _, _, h => h.2
  | .int _, _, _, h => h.2
  | .str _, _, _, h => h.2
  | .hole, _, _, h => h
  | .tup ds, _, _, h => by
    obtain ⟨a, xs, e, r, q⟩ := h
    exact RepL.sh_z' ds _ _ q
  | .lst ds, _, _, h => by
    obtain ⟨a, xs, g, e, q, z⟩ := h
    rcases z with ⟨_, _, _, e4⟩ | ⟨e1, _⟩
    · rw [e4]; exact RepL.sh_z' ds _ _ q
    · exact absurd rfl e1
  | .dK ds, _, _, h => by
    obtain ⟨a, xs, g, e, q, z⟩ := h
    rcases z with ⟨_, _, _, e4⟩ | ⟨e1, _⟩
    · rw [e4]; exact RepK.sh_z' ds _ _ q
    · exact absurd rfl e1
  | .dT ds, _, _, h => by
    obtain ⟨a, xs, g, e, q, z⟩ := h
    rcases z with ⟨_, _, _, e4⟩ | ⟨e1, _⟩
    · rw [e4]; exact RepT.sh_z' ds _ _ q
    · exact absurd rfl e1
theorem RepL.sh_z' : ∀ (ds : List D) (xs : List V) (f : FP), RepL H P ds .sh xs f → f = fz
  | [], _, _, h => h.2
  | d :: ds, _, _, h => by
    obtain ⟨x, r, f1, f2, e, h1, h2, e2⟩ := h
    rw [e2, RepD.sh_z d _ _ h1, RepL.sh_z' ds _ _ h2]; rfl
theorem RepK.sh_z' : ∀ (ds : List (Key × D)) (xs : List (Key × V)) (f : FP), RepK H P ds .sh xs f → f = fz
  | [], _, _, h => h.2
  | (k, d) :: ds, _, _, h => by
    obtain ⟨x, r, f1, f2, e, h1, h2, e2⟩ := h
    rw [e2, RepD.sh_z d _ _ h1, RepK.sh_z' ds _ _ h2]; rfl
theorem RepT.sh_z' : ∀ (ds : List (List Key × D)) (xs : List (List Key × V)) (f : FP), RepT H P ds .sh xs f → f = fz
  | [], _, _, h => h.2
  | (k, d) :: ds, _, _, h => by
    obtain ⟨x, r, f1, f2, e, h1, h2, e2⟩ := h
    rw [e2, RepD.sh_z d _ _ h1, RepT.sh_z' ds _ _ h2]; rfl
end
theorem RepL.sh_z {ds : List D} {xs : List V} (h : RepL H P ds .sh xs f) : f = fz := RepL.sh_z' ds xs f h
/-- what x stands for, to be read -/
theorem deref_ok (S : St0 σ e H P F) (r : RX σ H P x v f) (h : deref e x = some d) : ∃ l g, RepD H P d l v g := by
  cases x with
  | tmp d' l => cases h; exact ⟨l, f, r⟩
  | ali i =>
    unfold deref at h
    dsimp only at h
    cases q : gt e i with
    | none => rw [q] at h; cases h
    | own d' l =>
      rw [q] at h
      cases h
      obtain ⟨g, _, z, _⟩ := S.ali r.1 q
      exact ⟨l, g, z⟩
/-- a value kept -/
theorem use_ok (S : St0 σ e H P F) (r : RX σ H P x v f) (fr : Frm f H P (tot F)) (h : use e x = .ok (d, l) e') :
    ∃ P' F' f', St0 σ e' H P' F' ∧ RepD H P' d l v f' ∧ Frm f' H P' (tot F') ∧ Stp H P (fa (tot F) f) H P' (fa (tot F') f') := by
  cases x with
  | tmp d' l' =>
    have h' : R.ok (d', if imm d' then Lv.full else l') e = R.ok (d, l) e' := h
    injection h' with h1 h2
    injection h1 with h1 h3
    subst h1 h2 h3
    by_cases i : imm d'
    · rw [if_pos i]
      obtain ⟨z, q⟩ := RepD.imm (P' := P) .full i r
      exact ⟨P, F, fz, S, q, Frm.z, (Stp.refl H P _).mono (fun _ => Nat.le_refl _) fun a => by simp⟩
    · rw [if_neg i]
      exact ⟨P, F, f, S, r, fr, .refl H P _⟩
  | ali i =>
    obtain ⟨hs, rfl⟩ := r
    unfold use at h
    dsimp only at h
    cases q : gt e i with
    | none => rw [q] at h; cases h
    | own d' l' =>
      rw [q] at h
      obtain ⟨g, hf, z, hi⟩ := S.ali hs q
      by_cases im : imm d'
      · have h' : (if imm d' = true then R.ok (d', Lv.full) e else R.ok (d', Lv.sh) (e.set i (.own d' .sh))) = R.ok (d, l) e' := h
        rw [if_pos im] at h'
        injection h' with h1 h2
        injection h1 with h1 h3
        subst h1 h2 h3
        exact ⟨P, F, fz, S, (RepD.imm (P' := P) .full im z).2, Frm.z, by rw [fa_z]; exact .refl H P _⟩
      · have h' : (if imm d' = true then R.ok (d', Lv.full) e else R.ok (d', Lv.sh) (e.set i (.own d' .sh))) = R.ok (d, l) e' := h
        rw [if_neg im] at h'
        injection h' with h1 h2
        injection h1 with h1 h3
        subst h1 h2 h3
        have zz : RepD H (pAdd P g) d' .sh v fz := RepD.shr (fun _ h => .inl h) (fun _ h => .inr h) z
        obtain ⟨S', st, _⟩ := S.freeze hs hf g (fun a => by simp) zz hi
        exact ⟨_, _, fz, S', zz, Frm.z, by rw [fa_z, fa_z]; exact st⟩
/-- the items of a list or a tuple kept: xs, what stands at its address -/
theorem kids_ok {ds : List D} (S : St0 σ e H P F) (r : RX σ H P x v f) (fr : Frm f H P (tot F)) (h : kids e x = .ok (ds, l) e') :
    ∃ P' F' f' a xs, St0 σ e' H P' F' ∧ v = .ref a ∧ RepL H P' ds l xs f' ∧ Frm f' H P' (tot F') ∧ Stp H P (fa (tot F) f) H P' (fa (tot F') f') ∧
      ((deref e x = some (.lst ds) ∧ Rd H a (.lst xs)) ∨ (deref e x = some (.tup ds) ∧ Rd H a (.tup xs))) := by
  have opn : ∀ {ds : List D} {l : Lv} {f : FP}, RepD H P (.lst ds) l v f → ∃ a xs g, v = .ref a ∧ Rd H a (.lst xs) ∧ RepL H P ds l.pred xs g ∧ (∀ b, g b ≤ f b) := fun {ds l f} h => by
    obtain ⟨a, xs, g, e, q, z⟩ := h
    rcases z with ⟨e1, e2, e3, e4⟩ | ⟨e1, e3, e4⟩
    · exact ⟨a, xs, g, e, e3, q, fun b => by rw [e4]; exact Nat.le_refl _⟩
    · exact ⟨a, xs, g, e, .inl e3, q, fun b => by rw [e4]; simp⟩
  cases x with
  | tmp d' l' =>
    cases d' with
    | lst es =>
      have h' : R.ok (es, if immL es then Lv.full else l'.pred) e = R.ok (ds, l) e' := h
      injection h' with h1 h2
      injection h1 with h1 h3
      subst h1 h2 h3
      obtain ⟨a, xs, g, e1, e2, q, gl⟩ := opn r
      by_cases i : immL es
      · rw [if_pos i]
        exact ⟨P, F, fz, a, xs, S, e1, (RepL.imm (P' := P) .full i q).2, Frm.z, (Stp.refl H P _).mono (fun _ => Nat.le_refl _) (fun b => by simp), .inl ⟨rfl, e2⟩⟩
      · rw [if_neg i]
        exact ⟨P, F, g, a, xs, S, e1, q, fr.mono gl, (Stp.refl H P _).mono (fun _ => Nat.le_refl _) (fun b => by have := gl b; simp; omega), .inl ⟨rfl, e2⟩⟩
    | tup es =>
      have h' : R.ok (es, if immL es then Lv.full else l'.pred) e = R.ok (ds, l) e' := h
      injection h' with h1 h2
      injection h1 with h1 h3
      subst h1 h2 h3
      obtain ⟨a, xs, e1, e2, q⟩ := r
      by_cases i : immL es
      · rw [if_pos i]
        exact ⟨P, F, fz, a, xs, S, e1, (RepL.imm (P' := P) .full i q).2, Frm.z, (Stp.refl H P _).mono (fun _ => Nat.le_refl _) (fun b => by simp), .inr ⟨rfl, e2⟩⟩
      · rw [if_neg i]
        exact ⟨P, F, f, a, xs, S, e1, q, fr, .refl H P _, .inr ⟨rfl, e2⟩⟩
    | _ => cases h
  | ali i =>
    obtain ⟨hs, rfl⟩ := r
    unfold kids at h
    dsimp only at h
    cases q : gt e i with
    | none => rw [q] at h; cases h
    | own d' l' =>
      rw [q] at h
      obtain ⟨g, hf, z, hi⟩ := S.ali hs q
      cases d' with
      | lst es =>
        have dr : deref e (.ali i) = some (.lst es) := by show (match gt e i with | .own d _ => some d | .none => none) = _; rw [q]
        by_cases im : immL es
        · have h' : (if immL es = true then R.ok (es, Lv.full) e else R.ok (es, Lv.sh) (e.set i (.own (.lst es) (if l' = .sh then .sh else .top)))) = R.ok (ds, l) e' := h
          rw [if_pos im] at h'
          injection h' with h1 h2
          injection h1 with h1 h3
          subst h1 h2 h3
          obtain ⟨a, xs, g', e1, e2, q', _⟩ := opn z
          exact ⟨P, F, fz, a, xs, S, e1, (RepL.imm (P' := P) .full im q').2, Frm.z, by rw [fa_z]; exact .refl H P _, .inl ⟨dr, e2⟩⟩
        · have h' : (if immL es = true then R.ok (es, Lv.full) e else R.ok (es, Lv.sh) (e.set i (.own (.lst es) (if l' = .sh then .sh else .top)))) = R.ok (ds, l) e' := h
          rw [if_neg im] at h'
          injection h' with h1 h2
          injection h1 with h1 h3
          subst h1 h2 h3
          obtain ⟨a, xs, g', e1, q', w⟩ := z
          rcases w with ⟨l1, l2, l3, l4⟩ | ⟨l1, l3, l4⟩
          · subst l1
            have gz : g' = fz := RepL.sh_z q'
            subst gz
            subst l4
            have zz : RepD H (pAdd P fz) (.lst es) .sh v fz := by
              refine ⟨a, xs, fz, e1, RepL.car ⟨fun _ _ _ h => h, fun _ _ _ h => h, fun _ _ h => h, fun _ h => .inl h⟩ q', .inl ⟨rfl, .inl l2, l3, rfl⟩⟩
            obtain ⟨S', st, _⟩ := S.freeze hs hf fz (fun a => by simp) zz hi
            refine ⟨_, _, fz, a, xs, S', e1, RepL.car ⟨fun _ _ _ h => h, fun _ _ _ h => h, fun _ _ h => h, fun _ h => .inl h⟩ q', Frm.z, by rw [fa_z, fa_z]; exact st, .inl ⟨dr, l3⟩⟩
          · rw [if_neg l1]
            subst l4
            have qs : RepL H (pAdd P g') es .sh xs fz := RepL.shr (fun _ h => .inl h) (fun _ h => .inr h) q'
            have zz : RepD H (pAdd P g') (.lst es) .top v (fo a) := ⟨a, xs, fz, e1, qs, .inr ⟨by simp, l3, (fa_z _).symm⟩⟩
            obtain ⟨S', st, _⟩ := S.freeze hs hf g' (fun b => by simp; omega) zz hi
            exact ⟨_, _, fz, a, xs, S', e1, qs, Frm.z, by rw [fa_z, fa_z]; exact st, .inl ⟨dr, .inl l3⟩⟩
      | tup es =>
        have dr : deref e (.ali i) = some (.tup es) := by show (match gt e i with | .own d _ => some d | .none => none) = _; rw [q]
        by_cases im : immL es
        · have h' : (if immL es = true then R.ok (es, Lv.full) e else R.ok (es, Lv.sh) (e.set i (.own (.tup es) .sh))) = R.ok (ds, l) e' := h
          rw [if_pos im] at h'
          injection h' with h1 h2
          injection h1 with h1 h3
          subst h1 h2 h3
          obtain ⟨a, xs, e1, e2, q'⟩ := z
          exact ⟨P, F, fz, a, xs, S, e1, (RepL.imm (P' := P) .full im q').2, Frm.z, by rw [fa_z]; exact .refl H P _, .inr ⟨dr, e2⟩⟩
        · have h' : (if immL es = true then R.ok (es, Lv.full) e else R.ok (es, Lv.sh) (e.set i (.own (.tup es) .sh))) = R.ok (ds, l) e' := h
          rw [if_neg im] at h'
          injection h' with h1 h2
          injection h1 with h1 h3
          subst h1 h2 h3
          have zz : RepD H (pAdd P g) (.tup es) .sh v fz := RepD.shr (fun _ h => .inl h) (fun _ h => .inr h) z
          obtain ⟨S', st, _⟩ := S.freeze hs hf g (fun a => by simp) zz hi
          obtain ⟨a, xs, e1, e2, q'⟩ := id zz
          exact ⟨_, _, fz, a, xs, S', e1, q', Frm.z, by rw [fa_z, fa_z]; exact st, .inr ⟨dr, e2⟩⟩
      | _ => cases h
end
/-! ### what is wanted behind an expression -/
abbrev WC := Str → L2.St → Hp → Prop
def PX (W : WC) (σ : L2.St) (H : Hp) (P : Addr → Prop) (T : FP) (r : R X) (Q : VK) : Prop := match r with
  | .ok x e' => ∀ v H' P' F' f, St0 σ e' H' P' F' → RX σ H' P' x v f → Frm f H' P' (tot F') → Stp H P T H' P' (fa (tot F') f) → Q v H'
  | .exc c e' => ∀ H' P' F', St0 σ e' H' P' F' → Stp H P T H' P' (tot F') → W c σ H'
  | .stk => False
theorem PX.from {W : WC} {σ : L2.St} {H H1 : Hp} {P P1 : Addr → Prop} {T T1 : FP} {r : R X} {Q : VK} (s : Stp H P T H1 P1 T1) (h : PX W σ H P T r Q) : PX W σ H1 P1 T1 r Q := by
  cases r with
  | ok x e' => exact fun v H' P' F' f S q fr st => h v H' P' F' f S q fr (s.trans st)
  | exc c e' => exact fun H' P' F' S st => h H' P' F' S (s.trans st)
  | stk => exact h
/-- a value that is no part of the heap -/
theorem PX.plain {W : WC} {σ : L2.St} {e : Env} {H : Hp} {P : Addr → Prop} {F : List FP} {T : FP} {d : D} {v : V} {Q : VK} (h : PX W σ H P T (.ok (im d) e) Q) (S : St0 σ e H P F) (hT : ∀ a, tot F a ≤ T a) (q : RepD H P d .full v fz) : Q v H :=
  h v H P F fz S q Frm.z ((Stp.refl H P T).mono (fun _ => Nat.le_refl _) fun a => by simp; exact hT a)
end VI
namespace VI
open PySem PySem.Spec PyProof.Rows L2
/-! ### sorting: data of one kind -/
inductive SK where
  | int | str | lst (k : SK) | tup (k : SK) | two (a b : SK)
  deriving DecidableEq
mutual
def hasK : SK → D → Bool
  | .int, .int _ => true
  | .str, .str s => PyData.strOk s
  | .lst k, .lst ds => hasKs k ds
  | .tup k, .tup ds => hasKs k ds
  | .two a b, .tup [x, y] => hasK a x && hasK b y
  | _, _ => false
def hasKs : SK → List D → Bool
  | _, [] => true
  | k, d :: ds => hasK k d && hasKs k ds
end
mutual
def eqK : SK → D → D → Bool
  | .int, .int i, .int j => i == j
  | .str, .str s, .str t => s.cps.toList == t.cps.toList
  | .lst k, .lst xs, .lst ys => eqKs k xs ys
  | .tup k, .tup xs, .tup ys => eqKs k xs ys
  | .two a b, .tup [x, y], .tup [z, w] => eqK a x z && eqK b y w
  | _, _, _ => false
def eqKs : SK → List D → List D → Bool
  | _, [], [] => true
  | k, x :: xs, y :: ys => eqK k x y && eqKs k xs ys
  | _, _, _ => false
end
mutual
def ltK : SK → D → D → Bool
  | .int, .int i, .int j => decide (i < j)
  | .str, .str s, .str t => decide (s.cps.toList < t.cps.toList)
  | .lst k, .lst xs, .lst ys => ltKs k xs ys
  | .tup k, .tup xs, .tup ys => ltKs k xs ys
  | .two a b, .tup [x, y], .tup [z, w] => if eqK a x z then ltK b y w else ltK a x z
  | _, _, _ => false
def ltKs : SK → List D → List D → Bool
  | _, [], [] => false
  | _, [], _ :: _ => true
  | _, _ :: _, [] => false
  | k, x :: xs, y :: ys => if eqK k x y then ltKs k xs ys else ltK k x y
end
def leK (k : SK) (rev : Bool) (a b : D) : Bool := if rev then !ltK k a b else !ltK k b a
/-- put in ahead of the first one that does not go before it -/
def insK {α : Type} (le : α → α → Bool) (a : α) : List α → List α
  | [] => [a]
  | b :: l => if le a b then a :: b :: l else b :: insK le a l
def insort {α : Type} (le : α → α → Bool) : List α → List α
  | [] => []
  | a :: l => insK le a (insort le l)
def notNil : D → Bool
  | .tup [] => false
  | _ => true
def kinds : List SK := [.int, .str, .lst .int, .tup .int, .lst (.lst .int), .lst (.tup .int), .lst (.tup (.tup .int)), .tup (.lst .int), .tup (.tup .int), .lst (.lst (.lst .int)), .lst (.lst (.tup .int)), .two (.lst .int) .int, .tup .str, .lst .str]
def kindOf (ds : List D) : Option SK := if ds.all notNil then kinds.find? (hasKs · ds) else none
def sortD (rev : Bool) (ds : List D) : Option (List D) := (kindOf ds).map fun k => insort (leK k rev) ds
/-- each once -/
def onceB {α : Type} [BEq α] : List α → List α → List α
  | acc, [] => acc
  | acc, a :: l => onceB (if acc.elem a then acc else a :: acc) l
def ltI : List Int → List Int → Bool
  | [], [] => false
  | [], _ :: _ => true
  | _ :: _, [] => false
  | a :: r, b :: t => if a == b then ltI r t else decide (a < b)
def setI (ns : List Int) : Option (List Int) := if (onceB [] ns).length < 64 ∧ ns.length ≤ 4000 then some (insort (fun a b => decide (a ≤ b)) (onceB [] ns)) else none
def leR (a b : List Int) : Bool := !ltI b a
def setT (ks : List (List Int)) : Option (List (List Int)) := if (onceB [] ks).length < 63 ∧ ks.all (fun k => !k.isEmpty) then some (insort leR (onceB [] ks)) else none
theorem onceB_nd {α : Type} [BEq α] [LawfulBEq α] : ∀ {l acc : List α}, acc.Nodup → (onceB acc l).Nodup
  | [], _, h => h
  | a :: l, acc, h => by
    rw [onceB]
    refine onceB_nd ?_
    split
    · exact h
    · rename_i q
      exact List.nodup_cons.mpr ⟨fun z => q (by simpa using z), h⟩
theorem onceB_mem {α : Type} [BEq α] [LawfulBEq α] {x : α} : ∀ {l acc : List α}, x ∈ onceB acc l ↔ x ∈ acc ∨ x ∈ l
  | [], acc => by simp [onceB]
  | a :: l, acc => by
    rw [onceB, onceB_mem]
    split
    · rename_i q
      have q' : a ∈ acc := by simpa using q
      constructor
      · rintro (h | h)
        · exact .inl h
        · exact .inr (.tail _ h)
      · rintro (h | h)
        · exact .inl h
        · rcases List.mem_cons.mp h with e | h
          · subst e; exact .inl q'
          · exact .inr h
    · simp only [List.mem_cons]
      constructor
      · rintro ((h | h) | h)
        · exact .inr (.inl h)
        · exact .inl h
        · exact .inr (.inr h)
      · rintro (h | h | h)
        · exact .inl (.inr h)
        · exact .inl (.inl h)
        · exact .inr h
theorem ltKs_ints : ∀ a b : List Int, ltKs .int (a.map .int) (b.map .int) = ltI a b
  | [], [] => rfl
  | [], _ :: _ => rfl
  | _ :: _, [] => rfl
  | x :: a, y :: b => by
    simp only [List.map_cons, ltKs, ltI, eqK, ltK, ltKs_ints a b]
theorem ltI_total : ∀ a b : List Int, ltI a b = false → ltI b a = false → a = b
  | [], [], _, _ => rfl
  | [], _ :: _, h, _ => by simp [ltI] at h
  | _ :: _, [], _, h => by simp [ltI] at h
  | x :: a, y :: b, h1, h2 => by
    simp only [ltI] at h1 h2
    by_cases e : x = y
    · subst e
      simp only [beq_self_eq_true, if_true] at h1 h2
      rw [ltI_total a b h1 h2]
    · have e2 : ¬ y = x := fun q => e q.symm
      have b1 : (x == y) = false := by simpa using e
      have b2 : (y == x) = false := by simpa using e2
      rw [b1] at h1
      rw [b2] at h2
      simp at h1 h2
      omega
theorem hasKs_ints : ∀ ns : List Int, hasKs .int (ns.map .int) = true
  | [] => by simp [hasKs]
  | n :: ns => by simp [hasKs, hasK, hasKs_ints ns]
/-! as the program's order -/
theorem insK_split {α : Type} {le : α → α → Bool} {a : α} : ∀ {l r : List α}, (∀ b ∈ l, le a b = false) → (∀ b ∈ r.head?, le a b = true) → insK le a (l ++ r) = l ++ a :: r
  | [], [], _, _ => rfl
  | [], b :: r, _, h => by
    have := h b rfl
    simp [insK, this]
  | b :: l, r, h, h2 => by
    have h1 := h b List.mem_cons_self
    rw [List.cons_append, insK, h1, if_neg (by simp), insK_split (fun c hc => h c (List.mem_cons_of_mem _ hc)) h2]; rfl
theorem insort_merge {α : Type} {le : α → α → Bool} (tr : ∀ a b c : α, le a b = true → le b c = true → le a c = true) (to : ∀ a b : α, (le a b || le b a) = true) : ∀ l : List α, insort le l = l.mergeSort le
  | [] => by simp [insort]
  | a :: l => by
    obtain ⟨l1, l2, e1, e2, h⟩ := List.mergeSort_cons tr to a l
    rw [insort, insort_merge tr to l, e2, e1]
    refine insK_split (fun b hb => by simpa using h b hb) fun b hb => ?_
    have hs := List.pairwise_mergeSort tr to (a :: l)
    rw [e1] at hs
    have := (List.pairwise_append.mp hs).2.1
    cases l2 with
    | nil => cases hb
    | cons c l2 =>
      cases hb
      exact List.rel_of_pairwise_cons this List.mem_cons_self
theorem insort_mem {α : Type} {le : α → α → Bool} : ∀ {l : List α} {x : α}, x ∈ insort le l ↔ x ∈ l := by
  have ins : ∀ (l : List α) (a x : α), x ∈ insK le a l ↔ x = a ∨ x ∈ l := by
    intro l a x
    induction l with
    | nil => simp [insK]
    | cons b l ih =>
      rw [insK]
      split
      · simp
      · simp only [List.mem_cons, ih]
        constructor
        · rintro (h | h | h) <;> simp [h]
        · rintro (h | h | h) <;> simp [h]
  intro l x
  induction l with
  | nil => simp [insort]
  | cons a l ih => rw [insort, ins, ih, List.mem_cons]
theorem insK_congr {α : Type} {le le' : α → α → Bool} {a : α} : ∀ {l : List α}, (∀ b ∈ l, le a b = le' a b) → insK le a l = insK le' a l
  | [], _ => rfl
  | b :: l, h => by
    rw [insK, insK, h b List.mem_cons_self, insK_congr fun c hc => h c (List.mem_cons_of_mem _ hc)]
theorem insort_congr {α : Type} {le le' : α → α → Bool} : ∀ {l : List α}, (∀ a ∈ l, ∀ b ∈ l, le a b = le' a b) → insort le l = insort le' l
  | [], _ => rfl
  | a :: l, h => by
    have e := insort_congr (l := l) fun x hx y hy => h x (List.mem_cons_of_mem _ hx) y (List.mem_cons_of_mem _ hy)
    rw [insort, insort, e]
    exact insK_congr fun b hb => h a List.mem_cons_self b (List.mem_cons_of_mem _ (insort_mem.mp hb))
theorem insK_map {α β : Type} {le : β → β → Bool} (f : α → β) (a : α) : ∀ l : List α, (insK (fun x y => le (f x) (f y)) a l).map f = insK le (f a) (l.map f)
  | [] => rfl
  | b :: l => by
    rw [insK, List.map_cons, insK]
    split
    · rfl
    · rw [List.map_cons, insK_map f a l]
theorem insort_map {α β : Type} {le : β → β → Bool} (f : α → β) : ∀ l : List α, (insort (fun x y => le (f x) (f y)) l).map f = insort le (l.map f)
  | [] => rfl
  | a :: l => by rw [insort, insK_map, insort_map f l]; rfl
theorem insort_perm {α : Type} {le : α → α → Bool} : ∀ l : List α, (insort le l).Perm l
  | [] => .nil
  | a :: l => by
    have ins : ∀ (a : α) (l : List α), (insK le a l).Perm (a :: l) := by
      intro a l
      induction l with
      | nil => exact .refl _
      | cons b l ih =>
        rw [insK]
        split
        · exact .refl _
        · exact (ih.cons b).trans (.swap a b l)
    rw [insort]
    exact (ins a _).trans ((insort_perm l).cons a)
theorem hasK_int {d : D} (h : hasK .int d = true) : ∃ i, d = .int i := by
  cases d <;> first | exact ⟨_, rfl⟩ | (simp [hasK] at h)
theorem hasK_str' {d : D} (h : hasK .str d = true) : ∃ i, d = .str i ∧ PyData.strOk i = true := by
  cases d <;> first | exact ⟨_, rfl, by simpa [hasK] using h⟩ | (simp [hasK] at h)
theorem hasK_str {d : D} (h : hasK .str d = true) : ∃ i, d = .str i := ⟨_, (hasK_str' h).choose_spec.1⟩
theorem hasK_lst {k : SK} {d : D} (h : hasK (.lst k) d = true) : ∃ ds, d = .lst ds ∧ hasKs k ds = true := by
  cases d <;> first | exact ⟨_, rfl, by simpa [hasK] using h⟩ | (simp [hasK] at h)
theorem hasK_tup {k : SK} {d : D} (h : hasK (.tup k) d = true) : ∃ ds, d = .tup ds ∧ hasKs k ds = true := by
  cases d <;> first | exact ⟨_, rfl, by simpa [hasK] using h⟩ | (simp [hasK] at h)
theorem hasK_two {k m : SK} {d : D} (h : hasK (.two k m) d = true) : ∃ x y, d = .tup [x, y] ∧ hasK k x = true ∧ hasK m y = true := by
  cases d with
  | tup ds =>
    match ds, h with
    | [x, y], h => exact ⟨x, y, rfl, by simpa [hasK] using h⟩
    | [], h => simp [hasK] at h
    | [_], h => simp [hasK] at h
    | _ :: _ :: _ :: _, h => simp [hasK] at h
  | _ => simp [hasK] at h
mutual
theorem alikeK : ∀ {k : SK} {a b : D}, hasK k a = true → hasK k b = true → W.alike (py a) (py b) = true
  | .int, a, b, h1, h2 => by
    obtain ⟨i, rfl⟩ := hasK_int h1
    obtain ⟨j, rfl⟩ := hasK_int h2
    simp [py, W.alike]
  | .str, a, b, h1, h2 => by
    obtain ⟨i, rfl⟩ := hasK_str h1
    obtain ⟨j, rfl⟩ := hasK_str h2
    simp [py, W.alike]
  | .lst k, a, b, h1, h2 => by
    obtain ⟨xs, rfl, q1⟩ := hasK_lst h1
    obtain ⟨ys, rfl, q2⟩ := hasK_lst h2
    simp only [py, W.alike]
    exact alikeKs q1 q2
  | .tup k, a, b, h1, h2 => by
    obtain ⟨xs, rfl, q1⟩ := hasK_tup h1
    obtain ⟨ys, rfl, q2⟩ := hasK_tup h2
    simp only [py, W.alike]
    exact alikeKs q1 q2
  | .two k m, a, b, h1, h2 => by
    obtain ⟨x, y, rfl, q1, q2⟩ := hasK_two h1
    obtain ⟨z, w, rfl, q3, q4⟩ := hasK_two h2
    simp only [py, pyL, W.alike, W.alikeAll, Bool.and_eq_true]
    exact ⟨alikeK q1 q3, alikeK q2 q4, trivial⟩
theorem alikeKs : ∀ {k : SK} {a b : List D}, hasKs k a = true → hasKs k b = true → W.alikeAll (pyL a) (pyL b) = true
  | _, [], [], _, _ => by simp [pyL, W.alikeAll]
  | _, [], _ :: _, _, _ => by simp [pyL, W.alikeAll]
  | _, _ :: _, [], _, _ => by simp [pyL, W.alikeAll]
  | k, x :: a, y :: b, h1, h2 => by
    simp only [hasKs, Bool.and_eq_true] at h1 h2
    simp only [pyL, W.alikeAll, Bool.and_eq_true]
    exact ⟨alikeK h1.1 h2.1, alikeKs h1.2 h2.2⟩
end
mutual
theorem eqvK : ∀ {k : SK} {a b : D}, hasK k a = true → hasK k b = true → PyData.eqv (py a) (py b) = eqK k a b
  | .int, a, b, h1, h2 => by
    obtain ⟨i, rfl⟩ := hasK_int h1
    obtain ⟨j, rfl⟩ := hasK_int h2
    simp [py, PyData.eqv, eqK]
  | .str, a, b, h1, h2 => by
    obtain ⟨i, rfl⟩ := hasK_str h1
    obtain ⟨j, rfl⟩ := hasK_str h2
    simp only [py, PyData.eqv, eqK]
    by_cases e : i = j
    · subst e; rw [beq_self_eq_true, beq_self_eq_true]
    · have e2 : ¬ i.cps.toList = j.cps.toList := fun q => e (W.str_of_cps q)
      rw [beq_eq_false_iff_ne.mpr e, beq_eq_false_iff_ne.mpr e2]
  | .lst k, a, b, h1, h2 => by
    obtain ⟨xs, rfl, q1⟩ := hasK_lst h1
    obtain ⟨ys, rfl, q2⟩ := hasK_lst h2
    simp only [py, PyData.eqv, eqK]
    exact eqvKs q1 q2
  | .tup k, a, b, h1, h2 => by
    obtain ⟨xs, rfl, q1⟩ := hasK_tup h1
    obtain ⟨ys, rfl, q2⟩ := hasK_tup h2
    simp only [py, PyData.eqv, eqK]
    exact eqvKs q1 q2
  | .two k m, a, b, h1, h2 => by
    obtain ⟨x, y, rfl, q1, q2⟩ := hasK_two h1
    obtain ⟨z, w, rfl, q3, q4⟩ := hasK_two h2
    simp only [py, pyL, PyData.eqv, PyData.eqvAll, eqK, eqvK q1 q3, eqvK q2 q4, Bool.and_true]
theorem eqvKs : ∀ {k : SK} {a b : List D}, hasKs k a = true → hasKs k b = true → PyData.eqvAll (pyL a) (pyL b) = eqKs k a b
  | _, [], [], _, _ => by simp [pyL, PyData.eqvAll, eqKs]
  | _, [], _ :: _, _, _ => by simp [pyL, PyData.eqvAll, eqKs]
  | _, _ :: _, [], _, _ => by simp [pyL, PyData.eqvAll, eqKs]
  | k, x :: a, y :: b, h1, h2 => by
    simp only [hasKs, Bool.and_eq_true] at h1 h2
    simp only [pyL, PyData.eqvAll, eqKs, eqvK h1.1 h2.1, eqvKs h1.2 h2.2]
end
theorem rowLt_nil : W.rowLt [] [] = false := lex_irrefl _
theorem rowLt_nc (y : PyData) (ys : List PyData) : W.rowLt [] (y :: ys) = true := by
  unfold W.rowLt
  simp only [W.keyToksAll]
  rw [lex_diff (O := itemOrd) (by simp)]
  rfl
theorem rowLt_cn (y : PyData) (ys : List PyData) : W.rowLt (y :: ys) [] = false := by
  unfold W.rowLt
  simp only [W.keyToksAll]
  rw [lex_diff (O := itemOrd) (by simp)]
  rfl
mutual
theorem dltK : ∀ {k : SK} {a b : D}, hasK k a = true → hasK k b = true → W.dataLt (py a) (py b) = ltK k a b
  | .int, a, b, h1, h2 => by
    obtain ⟨i, rfl⟩ := hasK_int h1
    obtain ⟨j, rfl⟩ := hasK_int h2
    exact W.dataLt_int _ _
  | .str, a, b, h1, h2 => by
    obtain ⟨i, rfl⟩ := hasK_str h1
    obtain ⟨j, rfl⟩ := hasK_str h2
    exact W.dataLt_str _ _
  | .lst k, a, b, h1, h2 => by
    obtain ⟨xs, rfl, q1⟩ := hasK_lst h1
    obtain ⟨ys, rfl, q2⟩ := hasK_lst h2
    exact (W.dataLt_list _ _).trans (dltKs q1 q2)
  | .tup k, a, b, h1, h2 => by
    obtain ⟨xs, rfl, q1⟩ := hasK_tup h1
    obtain ⟨ys, rfl, q2⟩ := hasK_tup h2
    exact (W.dataLt_tuple _ _).trans (dltKs q1 q2)
  | .two k m, a, b, h1, h2 => by
    obtain ⟨x, y, rfl, q1, q2⟩ := hasK_two h1
    obtain ⟨z, w, rfl, q3, q4⟩ := hasK_two h2
    show W.dataLt (.tuple [py x, py y]) (.tuple [py z, py w]) = _
    rw [W.dataLt_pair (alikeK q1 q3) (alikeK q2 q4), eqvK q1 q3, eqvK q2 q4, dltK q1 q3, dltK q2 q4]
    simp only [ltK]
    cases e1 : eqK k x z
    · rfl
    · cases e2 : eqK m y w
      · rfl
      · rw [if_pos rfl, if_pos rfl, if_pos rfl]
        have e3 : W.dataLt (py y) (py w) = false := by
          have := (W.toks_eqv _ _ (alikeK q2 q4)).1 ((eqvK q2 q4).trans e2)
          unfold W.dataLt
          rw [this]; exact lex_irrefl _
        rw [← dltK q2 q4, e3]
theorem dltKs : ∀ {k : SK} {a b : List D}, hasKs k a = true → hasKs k b = true → W.rowLt (pyL a) (pyL b) = ltKs k a b
  | _, [], [], _, _ => by simp [pyL, rowLt_nil, ltKs]
  | _, [], _ :: _, _, _ => by simp [pyL, rowLt_nc, ltKs]
  | _, _ :: _, [], _, _ => by simp [pyL, rowLt_cn, ltKs]
  | k, x :: a, y :: b, h1, h2 => by
    simp only [hasKs, Bool.and_eq_true] at h1 h2
    show W.rowLt (py x :: pyL a) (py y :: pyL b) = _
    have e : W.rowLt (py x :: pyL a) (py y :: pyL b) = if PyData.eqv (py x) (py y) = true then W.rowLt (pyL a) (pyL b) else W.dataLt (py x) (py y) := W.dataLt_cons (alikeK h1.1 h2.1) _ _
    rw [e, eqvK h1.1 h2.1, dltKs h1.2 h2.2, dltK h1.1 h2.1]; rfl
end
end VI
namespace VI
open PySem PySem.Spec PyProof.Rows L2

/-! ### the text -/
inductive Ty where | int | bool | str | list | tuple | dict
  deriving DecidableEq
/-- built-ins of one argument; methods of no, one argument that change nothing -/
inductive B1 where
  | len | abs | minL | maxL | sum | all | any | int | str | list | tuple | sorted | sortedR | rev | repr | lenSet | sortedSet
  deriving DecidableEq
inductive B2 where
  | min | max | count | index | get | join
  deriving DecidableEq
inductive B3 where
  | get
  deriving DecidableEq
inductive G where
  | nm (i : Nat) | two (a b : G) | thr (a b c : G) | fou (a b c d : G)
def G.slots : G → List Nat
  | .nm i => [i]
  | .two a b => a.slots ++ b.slots
  | .thr a b c => a.slots ++ b.slots ++ c.slots
  | .fou a b c d => a.slots ++ b.slots ++ c.slots ++ d.slots
mutual
inductive E where
  | non | bl (b : Bool) | int (i : Int) | str (s : Str)
  | var (i : Nat) | mov (i : Nat)
  | gint (x : Str) (i : Int) | gstr (x : Str) (s : Str)
  | op (o : Op2) (a b : E)
  | neg (a : E)
  | cmp (o : Cm) (a b : E)
  | ch2 (o p : Cm) (a b c : E)
  | ch3 (o p q : Cm) (a b c d : E)
  | isc (pos : Bool) (a : E) (c : E)
  | and (a b : E) | or (a b : E) | not (a : E) | ite (c a b : E)
  | sub (a i : E)
  | slc (a : E) (lo hi : Eo)
  | lst (es : Es) | tup (es : Es) | dnewK | dnewT | disp (ps : Es)
  | comp (g : G) (own : List Nat) (it : It) (c : Eo) (elt : E)
  | call (f : Str) (es : Es)
  | b1 (b : B1) (a : E) | b2 (b : B2) (a c : E) | b3 (b : B3) (a c d : E)
  | rngL (es : Es) | rngT (es : Es)
  | pop (i : Nat) (k : Eo)
  | isin (a : E) (t : Ty)
  | bad
inductive Eo where
  | no | so (e : E)
inductive Es where
  | nil | cons (e : E) (r : Es)
/-- what a loop walks: a value; a slot that is hidden meanwhile; a range; .. -/
inductive It where
  | val (e : E) | hid (i : Nat) | rng (es : Es) | enu (e : E) | ehid (i : Nat) | zip (a b : E) | rvd (e : E)
end
/-- how a loop names the items that it changes: for t in x; for k, t in enumerate(x); for t, k in x -/
inductive Sh where | it (t : Nat) | en (k t : Nat) | tu (t k : Nat)
mutual
inductive S where
  | asg (g : G) (e : E)
  | setI (i : Nat) (k e : E)
  | set2 (i : Nat) (k : E) (j : Nat) (l : E) (a b : E)
  | aug (i : Nat) (e : E)
  | ex (e : E)
  | app (i : Nat) (e : E) | ext (i : Nat) (e : E) | ins (i : Nat) (k e : E) | rem (i : Nat) (e : E) | clr (i : Nat) | rvs (i : Nat)
  | ite (c : E) (a b : Ss)
  | for (g : G) (it : It) (b : Ss)
  | forO (h : Sh) (i : Nat) (b : Ss)
  | napp (i : Nat) (k a : E)
  | whl (c : E) (b : Ss)
  | ret (e : E) | rtn
  | rais (c : Str)
  | pass | brk | bad
inductive Ss where
  | nil | cons (s : S) (r : Ss)
end

/-! ### what it does -/
inductive CR where
  | ret (d : D) (l : Lv) (outs : List Slot)
  | exc (c : Str)
  | stk
structure CS where
  io : Str → List Bool
  run : Str → List (D × Lv) → CR
def closed (d : D) (l : Lv) : Bool := imm d || l == .full
def closedS : Slot → Bool
  | .none => true
  | .own d l => closed d l
/-- the arguments as the callee has them: an inout one as its slot has it, the others shared -/
def argOf (e : Env) (m : Bool) (x : X) : Option (D × Lv) := match m, x with
  | true, .ali i => match gt e i with
    | .own d l => if l = .sh then none else some (d, l)
    | .none => none
  | true, _ => none
  | false, x => (deref e x).map fun d => (d, .sh)
def argsOf (e : Env) : List Bool → List X → Option (List (D × Lv))
  | _, [] => some []
  | ms, x :: xs => match argOf e (ms.headD false) x, argsOf e ms.tail xs with
    | some a, some as => some (a :: as)
    | _, _ => none
/-- the slots of inout arguments; of the others -/
def inSl : List Bool → List X → List Nat
  | _, [] => []
  | ms, .ali i :: xs => if ms.headD false then i :: inSl ms.tail xs else inSl ms.tail xs
  | ms, _ :: xs => inSl ms.tail xs
def noSl : List Bool → List X → List Nat
  | _, [] => []
  | ms, .ali i :: xs => if ms.headD false then noSl ms.tail xs else i :: noSl ms.tail xs
  | ms, _ :: xs => noSl ms.tail xs
def backTo (e : Env) : List Bool → List X → List Slot → Env
  | ms, .ali i :: xs, o :: os => backTo (if ms.headD false then e.set i o else e) ms.tail xs os
  | ms, _ :: xs, _ :: os => backTo e ms.tail xs os
  | _, _, _ => e
def shareAll (e : Env) : List Nat → Env
  | [] => e
  | i :: is => shareAll (match gt e i with
    | .own d _ => e.set i (.own d .sh)
    | .none => e) is
def killAll (e : Env) : List Nat → Env
  | [] => e
  | i :: is => killAll (e.set i .none) is
def callX (cs : CS) (f : Str) (xs : List X) (e : Env) : R X :=
  match argsOf e (cs.io f) xs with
  | none => .stk
  | some as =>
    if (inSl (cs.io f) xs).Nodup ∧ (∀ i ∈ inSl (cs.io f) xs, i ∉ noSl (cs.io f) xs) then
      match cs.run f as with
      | .ret d l outs =>
        if closed d l && outs.all closedS then .ok (.tmp d l) (backTo (killAll e (inSl (cs.io f) xs)) (cs.io f) xs outs)
        else .ok (.tmp d l) (backTo (killAll (shareAll e (noSl (cs.io f) xs)) (inSl (cs.io f) xs)) (cs.io f) xs outs)
      | .exc c => .exc c (killAll e (inSl (cs.io f) xs))
      | .stk => .stk
    else .stk
/-- a temporary that the callee changes gets a slot behind the others meanwhile -/
def spill : List Bool → List X → Nat → List X × Env
  | _, [], _ => ([], [])
  | ms, .tmp d l :: xs, n => if ms.headD false then (.ali n :: (spill ms.tail xs (n + 1)).1, .own d l :: (spill ms.tail xs (n + 1)).2) else (.tmp d l :: (spill ms.tail xs n).1, (spill ms.tail xs n).2)
  | ms, .ali i :: xs, n => (.ali i :: (spill ms.tail xs n).1, (spill ms.tail xs n).2)
def hasTmp : List Bool → List X → Bool
  | _, [] => false
  | ms, .tmp _ _ :: xs => ms.headD false || hasTmp ms.tail xs
  | ms, .ali _ :: xs => hasTmp ms.tail xs
def cutR (n : Nat) : R X → R X
  | .ok x e => .ok x (e.take n)
  | .exc c e => .exc c (e.take n)
  | .stk => .stk
def callY (cs : CS) (f : Str) (xs : List X) (e : Env) : R X :=
  if hasTmp (cs.io f) xs then cutR e.length (callX cs f (spill (cs.io f) xs e.length).1 (e ++ (spill (cs.io f) xs e.length).2)) else callX cs f xs e

/-! values -/
def truthy : D → Option Bool
  | .non => some false | .bl b => some b | .int i => some (i != 0) | .str s => if s.length ≤ sizeLine then some ((s.length : Int) != 0) else none
  | .lst ds => some (!ds.isEmpty) | .tup ds => some (!ds.isEmpty)
  | .dK ds => some (!ds.isEmpty) | .dT _ => none | .hole => none
def intsD : List D → Option (List Int)
  | [] => some []
  | .int i :: r => (intsD r).map (i :: ·)
  | _ :: _ => none
def boolsD : List D → Option (List Bool)
  | [] => some []
  | .bl i :: r => (boolsD r).map (i :: ·)
  | _ :: _ => none
def strsD : List D → Option (List Str)
  | [] => some []
  | .str i :: r => (strsD r).map (i :: ·)
  | _ :: _ => none
def rowD : D → Option (List Int)
  | .tup ds => intsD ds
  | _ => none
def rowsD : List D → Option (List (List Int))
  | [] => some []
  | d :: r => (rowD d).bind fun k => (rowsD r).map (k :: ·)
/-- what a set of these holds, in order -/
def osetD (ds : List D) : Option (List D) := match intsD ds with
  | some ns => (setI ns).map (·.map .int)
  | none => (rowsD ds).bind fun ks => (setT ks).map (·.map fun k => .tup (k.map .int))
def lenD (ds : List D) : Option Int := (intsD ds).bind fun ns => if ns.length ≤ 4000 then some ((onceB [] ns).length : Nat) else none
def sq : D → Option (List D)
  | .lst ds => some ds
  | .tup ds => some ds
  | _ => none
def leastI : Int → List Int → Int
  | m, [] => m
  | m, x :: r => leastI (if x < m then x else m) r
def greatI : Int → List Int → Int
  | m, [] => m
  | m, x :: r => greatI (if m < x then x else m) r
def b1X (b : B1) (x : X) (e : Env) : R X :=
  match b, deref e x with
  | .len, some (.lst ds) => .ok (im (.int ds.length)) e
  | .len, some (.tup ds) => .ok (im (.int ds.length)) e
  | .len, some (.str s) => if s.length ≤ sizeLine then .ok (im (.int s.length)) e else .stk
  | .len, some (.dK ds) => .ok (im (.int ds.length)) e
  | .abs, some (.int i) => .ok (im (.int (if i < 0 then -i else i))) e
  | .int, some (.int i) => .ok (im (.int i)) e
  | .int, some (.bl i) => .ok (im (.int (if i then 1 else 0))) e
  | .str, some (.int i) => if i.natAbs.log2 < 1920 then .ok (im (.str (toString i))) e else .stk
  | .sum, some (.lst ds) => ofO ((intsD ds).map fun ns => im (.int ns.sum)) e
  | .minL, some (.lst ds) => ofO ((intsD ds).bind fun | n :: ns => some (im (.int (leastI n ns))) | [] => none) e
  | .maxL, some (.lst ds) => ofO ((intsD ds).bind fun | n :: ns => some (im (.int (greatI n ns))) | [] => none) e
  | .all, some (.lst ds) => ofO ((boolsD ds).map fun ns => im (.bl (ns.all id))) e
  | .any, some (.lst ds) => ofO ((boolsD ds).map fun ns => im (.bl (ns.any id))) e
  | .list, some (.lst _) => (kids e x).bind fun p e1 => .ok (mkL p.1 p.2) e1
  | .list, some (.tup _) => (kids e x).bind fun p e1 => .ok (mkL p.1 p.2) e1
  | .tuple, some (.lst _) => (kids e x).bind fun p e1 => .ok (mkT p.1 p.2) e1
  | .tuple, some (.tup _) => (kids e x).bind fun p e1 => .ok (mkT p.1 p.2) e1
  | .rev, some (.lst _) => (kids e x).bind fun p e1 => .ok (mkL p.1.reverse p.2) e1
  | .sorted, some (.lst _) => (kids e x).bind fun p e1 => match sortD false p.1 with
    | some ds => .ok (mkL ds p.2) e1
    | none => .stk
  | .sorted, some (.tup _) => (kids e x).bind fun p e1 => match sortD false p.1 with
    | some ds => .ok (mkL ds p.2) e1
    | none => .stk
  | .sortedSet, some (.lst ds) => (match osetD ds with
    | some us => .ok (.tmp (.lst us) .full) e
    | none => .stk)
  | .lenSet, some (.lst ds) => ofO ((lenD ds).map fun n => im (.int n)) e
  | .sortedR, some (.lst _) => (kids e x).bind fun p e1 => match sortD true p.1 with
    | some ds => .ok (mkL ds p.2) e1
    | none => .stk
  | _, _ => .stk
def findEq (d : D) : List D → Nat → Option Nat
  | [], _ => none
  | z :: r, n => if PyData.eqv (py z) (py d) then some n else findEq d r (n + 1)
def mmX (mx : Bool) (x y : X) (e : Env) : R X := match deref e x, deref e y with
  | some (.int i), some (.int j) => .ok (im (.int (if mx then (if j > i then j else i) else if j < i then j else i))) e
  | _, _ => .stk
def idxX (x y : X) (e : Env) : R X := match deref e x, deref e y with
  | some (.lst ds), some d => if shapedD d && shapedD (.lst ds) then ofO ((findEq d ds 0).map fun n : Nat => im (.int n)) e else .stk
  | _, _ => .stk
def joinX (x y : X) (e : Env) : R X := match deref e x, deref e y with
  | some (.str s), some (.lst ds) => ofO ((strsD ds).bind fun ys => if (ys.map (·.length)).sum + ys.length * s.length ≤ 16777216 then some (im (.str (Txt.join s ys))) else none) e
  | _, _ => .stk
def cntX (x y : X) (e : Env) : R X := match deref e x, deref e y with
  | some (.lst ds), some (.int k) => ofO ((intsD ds).map fun ns => im (.int (ns.count k : Nat))) e
  | _, _ => .stk
def b2X (b : B2) (x y : X) (e : Env) : R X := match b with
  | .min => mmX false x y e
  | .max => mmX true x y e
  | .index => idxX x y e
  | .count => cntX x y e
  | .join => joinX x y e
  | _ => .stk
/-- a method's receiver -/
def b2R : B2 → Option D → Bool
  | .min, _ => true | .max, _ => true
  | .index, some (.lst _) => true
  | .count, some (.lst _) => true
  | .join, some (.str _) => true
  | _, _ => false
def b3R : B3 → Option D → Bool
  | .get, some (.dK _) => true
  | _, _ => false
def key1 : D → Option Key
  | .int i => some (.inl i)
  | .str s => some (.inr s)
  | _ => none
def b3X (b : B3) (x y z : X) (e : Env) : R X :=
  match b, deref e x, (deref e y).bind key1, deref e z with
  | .get, some (.dK kvs), some k, some d => if imm d then (match dlookK k kvs with
      | some c => if imm c then .ok (im c) e else .stk
      | none => .ok (im d) e) else .stk
  | _, _, _, _ => .stk
/-- x[y] -/
def subX (x y : X) (e : Env) : R X :=
  match deref e x, deref e y with
  | some (.str s), some (.int i) => if s.length ≤ sizeLine then ofO ((atI s.cps.toList i).map fun c => im (.str ⟨#[c]⟩)) e else .stk
  | some (.dK kvs), some k => ofO ((key1 k).bind fun k => (dlookK k kvs).bind fun d => if imm d then some (im d) else none) e
  | some (.lst ds), some (.int i) => (match atI ds i with
    | some d => if imm d then .ok (im d) e else (kids e x).bind fun p e1 => .ok (.tmp d p.2) e1
    | none => .stk)
  | some (.tup ds), some (.int i) => (match atI ds i with
    | some d => if imm d then .ok (im d) e else (kids e x).bind fun p e1 => .ok (.tmp d p.2) e1
    | none => .stk)
  | _, _ => .stk
def cutD {α : Type} (xs : List α) (lo hi : Option Int) : List α := (xs.drop (HT.sIx xs.length 0 lo)).take (HT.sIx xs.length xs.length hi - HT.sIx xs.length 0 lo)
def slcX (x : X) (l h : Option Int) (e : Env) : R X := match deref e x with
  | some (.str s) => if s.length ≤ sizeLine then .ok (im (.str (cutS s l h))) e else .stk
  | some (.lst _) => (kids e x).bind fun p e1 => .ok (mkL (cutD p.1 l h) p.2) e1
  | some (.tup _) => (kids e x).bind fun p e1 => .ok (mkT (cutD p.1 l h) p.2) e1
  | _ => .stk
def isTy : Ty → D → Option Bool
  | _, .hole => none
  | .int, .int _ => some true | .int, .bl _ => some true | .int, _ => some false
  | .bool, .bl _ => some true | .bool, _ => some false
  | .str, .str _ => some true | .str, _ => some false
  | .list, .lst _ => some true | .list, _ => some false
  | .tuple, .tup _ => some true | .tuple, _ => some false
  | .dict, .dK _ => some true | .dict, .dT _ => some true | .dict, _ => some false
def iscD (pos : Bool) (a c : D) : Option Bool := match c with
  | .non => (match a with
    | .non => some pos
    | .hole => none
    | _ => some (!pos))
  | .bl y => (match a with
    | .bl x => some (if pos then decide (x = y) else !decide (x = y))
    | _ => none)
  | _ => none
/-- the intsD of a range -/
def rangeI (lo : Int) (n : Nat) (st : Int) : List Int := (List.range n).map fun k : Nat => lo + (k : Int) * st
def rangeOf : List D → Option (List D)
  | [.int j] => if -(2 ^ 62) ≤ j ∧ j < 2 ^ 62 then some ((rangeI 0 j.toNat 1).map .int) else none
  | [.int i, .int j] => if -(2 ^ 62) ≤ i ∧ i < 2 ^ 62 ∧ -(2 ^ 62) ≤ j ∧ j < 2 ^ 62 then some ((rangeI i (j - i).toNat 1).map .int) else none
  | [.int i, .int j, .int (-1)] => if -(2 ^ 61) ≤ i ∧ i < 2 ^ 61 ∧ -(2 ^ 61) ≤ j ∧ j < 2 ^ 61 then some ((rangeI i (i - j).toNat (-1)).map .int) else none
  | _ => none
def derefs (e : Env) : List X → Option (List D)
  | [] => some []
  | x :: xs => match deref e x, derefs e xs with
    | some d, some ds => some (d :: ds)
    | _, _ => none
def uses : List X → Env → R (List (D × Lv))
  | [], e => .ok [] e
  | x :: xs, e => (use e x).bind fun p e1 => (uses xs e1).bind fun ps e2 => .ok (p :: ps) e2
/-- a target gets a datum (slots stored from the left) -/
def bindG : G → D → Lv → Env → Option Env
  | .nm i, d, l, e => if i < e.length then some (e.set i (.own d (if imm d then .full else l))) else none
  | .two a b, .tup [d1, d2], l, e => (bindG a d1 l.pred e).bind fun e1 => bindG b d2 l.pred e1
  | .two a b, .lst [d1, d2], l, e => (bindG a d1 l.pred e).bind fun e1 => bindG b d2 l.pred e1
  | .thr a b c, .tup [d1, d2, d3], l, e => (bindG a d1 l.pred e).bind fun e1 => (bindG b d2 l.pred e1).bind fun e2 => bindG c d3 l.pred e2
  | .fou a b c d, .tup [d1, d2, d3, d4], l, e => (bindG a d1 l.pred e).bind fun e1 => (bindG b d2 l.pred e1).bind fun e2 => (bindG c d3 l.pred e2).bind fun e3 => bindG d d4 l.pred e3
  | _, _, _, _ => none
def wipeE (e : Env) : List Nat → Env
  | [] => e
  | i :: is => (wipeE e is).set i .none
/-- own slots again as they were, but what may have been changed -/
def unwipe (old e : Env) : List Nat → Env
  | [] => e
  | i :: is => (unwipe old e is).set i (match gt old i with
    | .own d _ => if imm d then .own d .full else .none
    | .none => .none)
/-- what is walked of a list, a tuple, a text -/
def walkS (d : D) (l : Lv) : Option (List (D × Lv)) := match d with
  | .lst ds => some (ds.map fun d => (d, if immL ds then .full else l.pred))
  | .tup ds => some (ds.map fun d => (d, if immL ds then .full else l.pred))
  | _ => none
def walkD (d : D) (l : Lv) : Option (List (D × Lv)) := match d with
  | .str s => some (s.cps.toList.map fun c => (.str ⟨#[c]⟩, .full))
  | d => walkS d l
def enumP (k : Nat) : List (D × Lv) → List (D × Lv)
  | [] => []
  | (d, l) :: ds => (.tup [.int k, d], l) :: enumP (k + 1) ds
def zipD : List D → List D → List D
  | a :: as, b :: bs => .tup [a, b] :: zipD as bs
  | _, _ => []
/-- two lists or two tuples, at level m -/
def zipW (m : Lv) : D → D → Option (List (D × Lv))
  | .lst ds, .lst es => some ((zipD ds es).map fun d => (d, if immL ds && immL es then .full else m))
  | .tup ds, .tup es => some ((zipD ds es).map fun d => (d, if immL ds && immL es then .full else m))
  | _, _ => none
/-- a comprehension's loop; n: how many it has already -/
def compL (f : D × Lv → Env → R (Option (D × Lv))) : Nat → List (D × Lv) → Env → R (List (D × Lv))
  | _, [], e => .ok [] e
  | n, p :: ps, e => (f p e).bind fun r e1 => match r with
    | some q => if n < sizeLine then (compL f (n + 1) ps e1).bind fun rs e2 => .ok (q :: rs) e2 else .stk
    | none => compL f n ps e1
def noExc {α : Type} : R α → R α
  | .exc _ _ => .stk
  | r => r
def restore (e : Env) : Option (Nat × Slot) → Env
  | none => e
  | some (i, s) => e.set i s
def cmpX (o : Cm) (x y : X) (e : Env) : R X := match deref e x, deref e y with
  | some a, some b => ofO ((cmpD o a b).map fun t => im (.bl t)) e
  | _, _ => .stk
/-- a truth -/
def boo (r : R X) : R Bool := r.bind fun x e1 => match deref e1 x with
  | some (.bl b) => .ok b e1
  | _ => .stk
/-- a test's outcome -/
def tst (r : R X) : R Bool := r.bind fun x e1 => ofO ((deref e1 x).bind truthy) e1
/-- slot i's list loses an item -/
def popX (i : Nat) (o : Option Int) (e1 : Env) : R X := match gt e1 i with
  | .own (.lst ds) l => if l = .sh then .stk else
    (match seqIndex? (o.getD (-1)) ds.length with
    | some j => match ds[j]? with
      | some d => if -(2 ^ 63) ≤ o.getD (-1) ∧ o.getD (-1) < 2 ^ 63 then .ok (.tmp d (if imm d then .full else l.pred)) (e1.set i (.own (.lst (ds.eraseIdx j)) l)) else .stk
      | none => .stk
    | none => .stk)
  | _ => .stk
def intO (r : R X) : R (Option Int) := r.bind fun x e1 => match deref e1 x with
  | some (.int i) => .ok (some i) e1
  | _ => .stk
def pairsK : List D → Option (List (Key × D))
  | [] => some []
  | k :: d :: r => (key1 k).bind fun k => (pairsK r).map ((k, d) :: ·)
  | _ => none
/-- a dict's display: the new dict, then keys and values -/
def dispX (xs : List X) (e : Env) : R X := match xs with
  | .tmp (.dK []) .full :: rest => ofO (((derefs e rest).bind pairsK).bind fun kvs => if kvs.length ≤ 15 ∧ (kvs.all fun kv => imm kv.2) = true then some (.tmp (.dK (kvs.foldl (fun acc kv => dputK kv.1 kv.2 acc) [])) .full) else none) e
  | _ => .stk
section
variable (cs : CS)
mutual
def evalE : E → Env → R X
  | .non, e => .ok (im .non) e
  | .bl b, e => .ok (im (.bl b)) e
  | .int i, e => .ok (im (.int i)) e
  | .str s, e => .ok (im (.str s)) e
  | .var i, e => match gt e i with
    | .own _ _ => .ok (.ali i) e
    | .none => .stk
  | .mov i, e => match gt e i with
    | .own d l => .ok (.tmp d l) (e.set i .none)
    | .none => .stk
  | .gint _ i, e => .ok (im (.int i)) e
  | .gstr _ s, e => .ok (im (.str s)) e
  | .op o a b, e => (evalE a e).bind fun x e1 => (evalE b e1).bind fun y e2 => opX o x y e2
  | .neg a, e => (evalE a e).bind fun x e1 => match deref e1 x with
    | some (.int i) => .ok (im (.int (-i))) e1
    | _ => .stk
  | .cmp o a b, e => (evalE a e).bind fun x e1 => (evalE b e1).bind fun y e2 => cmpX o x y e2
  | .ch2 o p a b c, e => (evalE a e).bind fun x e1 => (evalE b e1).bind fun y e2 => (cmpX o x y e2).bind fun z e3 =>
    match z with
    | .tmp (.bl true) _ => (evalE c e3).bind fun w e4 => cmpX p y w e4
    | .tmp (.bl false) _ => .ok (im (.bl false)) e3
    | _ => .stk
  | .ch3 o p q a b c d, e => (evalE a e).bind fun x e1 => (evalE b e1).bind fun y e2 => (cmpX o x y e2).bind fun z e3 =>
    match z with
    | .tmp (.bl true) _ => (evalE c e3).bind fun w e4 => (cmpX p y w e4).bind fun z2 e5 =>
      match z2 with
      | .tmp (.bl true) _ => (evalE d e5).bind fun u e6 => cmpX q w u e6
      | .tmp (.bl false) _ => .ok (im (.bl false)) e5
      | _ => .stk
    | .tmp (.bl false) _ => .ok (im (.bl false)) e3
    | _ => .stk
  | .isc pos a c, e => (evalE a e).bind fun x e1 => (evalE c e1).bind fun y e2 => match deref e2 x, deref e2 y with
    | some d, some k => ofO ((iscD pos d k).map fun b => im (.bl b)) e2
    | _, _ => .stk
  | .and a b, e => (boo (evalE a e)).bind fun t e1 => if t then (boo (evalE b e1)).bind fun u e2 => .ok (im (.bl u)) e2 else .ok (im (.bl false)) e1
  | .or a b, e => (boo (evalE a e)).bind fun t e1 => if t then .ok (im (.bl true)) e1 else (boo (evalE b e1)).bind fun u e2 => .ok (im (.bl u)) e2
  | .not a, e => (boo (evalE a e)).bind fun t e1 => .ok (im (.bl (!t))) e1
  | .ite c a b, e => (tst (evalE c e)).bind fun t e1 => if t then evalE a e1 else evalE b e1
  | .sub a i, e => (evalE a e).bind fun x e1 => (evalE i e1).bind fun y e2 => subX x y e2
  | .slc a lo hi, e => (evalE a e).bind fun x e1 => (evalO lo e1).bind fun l e2 => (evalO hi e2).bind fun h e3 => slcX x l h e3
  | .lst es, e => (evalEs es e).bind fun xs e1 => (uses xs e1).bind fun ps e2 => if ps.length ≤ sizeLine then .ok (mkL (ps.map (·.1)) (lall ps)) e2 else .stk
  | .tup es, e => (evalEs es e).bind fun xs e1 => (uses xs e1).bind fun ps e2 => if ps.length ≤ sizeLine then .ok (mkT (ps.map (·.1)) (lall ps)) e2 else .stk
  | .dnewK, e => .ok (.tmp (.dK []) .full) e
  | .dnewT, e => .ok (.tmp (.dT []) .full) e
  | .disp es, e => (evalEs es e).bind fun xs e1 => dispX (.tmp (.dK []) .full :: xs) e1
  | .comp g own it c elt, e => (evalI it e).bind fun p e1 =>
    (compL (fun q e2 => match bindG g q.1 q.2 e2 with
      | none => .stk
      | some e3 => (noExc (testO c e3)).bind fun t e4 => if t then (noExc (evalE elt e4)).bind fun x e5 => (use e5 x).bind fun r e6 => .ok (some r) (wipeE e6 own) else .ok none (wipeE e4 own)) 0 p.1 (wipeE e1 own)).bind fun rs e7 =>
    .ok (mkL (rs.map (·.1)) (lall rs)) (restore (unwipe e1 e7 own) p.2)
  | .call f es, e => (evalEs es e).bind fun xs e1 => callY cs f xs e1
  | .b1 b a, e => (evalE a e).bind fun x e1 => b1X b x e1
  | .b2 b a c, e => (evalE a e).bind fun x e1 => if b2R b (deref e1 x) then (evalE c e1).bind fun y e2 => b2X b x y e2 else .stk
  | .b3 b a c d, e => (evalE a e).bind fun x e1 => if b3R b (deref e1 x) then (evalE c e1).bind fun y e2 => (evalE d e2).bind fun z e3 => b3X b x y z e3 else .stk
  | .rngL es, e => (evalEs es e).bind fun xs e1 => ofO (((derefs e1 xs).bind rangeOf).bind fun ds => if ds.length ≤ sizeLine then some (mkL ds .full) else none) e1
  | .rngT es, e => (evalEs es e).bind fun xs e1 => ofO (((derefs e1 xs).bind rangeOf).bind fun ds => if ds.length ≤ sizeLine then some (mkT ds .full) else none) e1
  | .pop i k, e => match gt e i with
    | .own (.lst _) _ => (evalO k e).bind fun x e1 => popX i x e1
    | _ => .stk
  | .isin a t, e => (evalE a e).bind fun x e1 => ofO (((deref e1 x).bind (isTy t)).map fun b => im (.bl b)) e1
  | .bad, _ => .stk
def evalO : Eo → Env → R (Option Int)
  | .no, e => .ok none e
  | .so a, e => intO (evalE a e)
def testO : Eo → Env → R Bool
  | .no, e => .ok true e
  | .so a, e => tst (evalE a e)
def evalEs : Es → Env → R (List X)
  | .nil, e => .ok [] e
  | .cons a r, e => (evalE a e).bind fun x e1 => (evalEs r e1).bind fun xs e2 => .ok (x :: xs) e2
def evalI : It → Env → R (List (D × Lv) × Option (Nat × Slot))
  | .val a, e => (evalE a e).bind fun x e1 => (use e1 x).bind fun p e2 => ofO ((walkD p.1 p.2).map fun ps => (ps, none)) e2
  | .hid i, e => match gt e i with
    | .own (.lst ds) l => if l = .sh then .ok (ds.map fun d => (d, if immL ds then .full else .sh), none) e else
      if immL ds then .ok (ds.map fun d => (d, .full), some (i, .own (.lst ds) l)) (e.set i .none)
      else .ok (ds.map fun d => (d, .sh), some (i, .own (.lst ds) .top)) (e.set i .none)
    | _ => .stk
  | .rng es, e => (evalEs es e).bind fun xs e1 => ofO (((derefs e1 xs).bind rangeOf).map fun ds => (ds.map fun d => (d, .full), none)) e1
  | .enu a, e => (evalE a e).bind fun x e1 => (use e1 x).bind fun p e2 => ofO ((walkS p.1 p.2).map fun ps => (enumP 0 ps, none)) e2
  | .ehid i, e => .stk
  | .zip a b, e => (evalE a e).bind fun x e1 => (evalE b e1).bind fun y e2 => (uses [x, y] e2).bind fun ps e3 => (match ps with
    | [p, q] => ofO ((zipW (lall ps) p.1 q.1).map fun ps => (ps, none)) e3
    | _ => .stk)
  | .rvd a, e => (evalE a e).bind fun x e1 => (use e1 x).bind fun p e2 => ofO ((walkS p.1 p.2).map fun ps => (ps.reverse, none)) e2
end
end
end VI
namespace VI
open PySem PySem.Spec PyProof.Rows L2

inductive Fl where
  | nx (e : Env)
  | ret (d : D) (l : Lv) (e : Env)
  | exc (c : Str) (e : Env)
  | brk (e : Env)
  | stk
def R.fl {α : Type} (r : R α) (f : α → Env → Fl) : Fl := match r with
  | .ok a e => f a e
  | .exc c e => .exc c e
  | .stk => .stk
def Fl.seq (r : Fl) (f : Env → Fl) : Fl := match r with
  | .nx e => f e
  | r => r
def nxO (o : Option Env) : Fl := match o with
  | some e => .nx e
  | none => .stk
/-- a list of level lv that gets an item of level l -/
def addLv (lv l : Lv) : Lv := if lv = .full ∧ l = .full then .full else .top
def forL (f : D × Lv → Env → Fl) : List (D × Lv) → Env → Fl
  | [], e => .nx e
  | p :: ps, e => match f p e with
    | .nx e1 => forL f ps e1
    | .brk e1 => .nx e1
    | r => r
def whlL (t : Env → R Bool) (f : Env → Fl) : Nat → Env → Fl
  | 0, _ => .stk
  | n + 1, e => (t e).fl fun b e1 => if b then (match f e1 with
    | .nx e2 => whlL t f n e2
    | .brk e2 => .nx e2
    | r => r) else .nx e1
def Fl.restore (r : Fl) (o : Option (Nat × Slot)) : Fl := match r with
  | .nx e => .nx (VI.restore e o)
  | .ret d l e => .ret d l (VI.restore e o)
  | .exc c e => .exc c (VI.restore e o)
  | r => r
def Sh.g : Sh → G
  | .it t => .nm t
  | .en k t => .two (.nm k) (.nm t)
  | .tu t k => .two (.nm t) (.nm k)
/-- the slot of what is changed -/
def Sh.t : Sh → Nat
  | .it t => t
  | .en _ t => t
  | .tu t _ => t
def Sh.item : Sh → Nat → D → D
  | .en _ _, j, d => .tup [.int j, d]
  | _, _, d => d
/-- the item again, with what was changed of it -/
def Sh.put : Sh → D → D → Option D
  | .tu _ _, .tup [_, y], d => if imm y then some (.tup [d, y]) else none
  | .tu _ _, _, _ => none
  | _, _, d => some d
def Sh.back (h : Sh) (d : D) (e : Env) : Option D := match gt e h.t with
  | .own d' .full => h.put d d'
  | _ => none
def forOL (h : Sh) (f : Env → Fl) : Nat → List D → Env → R (List D)
  | _, [], e => .ok [] e
  | j, d :: ds, e => match bindG h.g (h.item j d) .full e with
    | none => .stk
    | some e1 => match f e1 with
      | .nx e2 => match h.back d e2 with
        | some d' => (forOL h f (j + 1) ds (e2.set h.t .none)).bind fun r e4 => .ok (d' :: r) e4
        | none => .stk
      | _ => .stk
/-- how many turns a while may take -/
def turns : Nat := 100000
def insAt {α : Type} (xs : List α) (i : Nat) (x : α) : List α := xs.take i ++ x :: xs.drop i
/-- an index of a list of that length -/
def setX (i : Nat) (p : D × Lv) (y : Option D) (e3 : Env) : Fl := match gt e3 i, y with
  | .own (.lst ds) lv, some (.int j) => if lv = .sh then .stk else (match ixN ds.length j with
    | some n => .nx (e3.set i (.own (.lst (ds.set n p.1)) (addLv lv p.2)))
    | none => .stk)
  | .own (.dK kvs) lv, some k => if lv = .sh then .stk else (match key1 k with
    | some k => if kvs.length < sizeLine ∧ (imm p.1 = true ∨ (kvs.map (·.1)).Nodup) then .nx (e3.set i (.own (.dK (dputK k p.1 kvs)) (addLv lv p.2))) else .stk
    | none => .stk)
  | _, _ => .stk
section
variable (cs : CS)
/-- x[k] = d, d without mutable parts -/
def storeX (i : Nat) (k : E) (d : D) (e : Env) : Fl := match gt e i with
  | .own _ _ => (evalE cs k e).fl fun y e3 => setX i (d, .full) (deref e3 y) e3
  | .none => .stk
mutual
def exec : S → Env → Fl
  | .asg g a, e => (evalE cs a e).fl fun x e1 => (use e1 x).fl fun p e2 => nxO (bindG g p.1 p.2 e2)
  | .setI i k a, e => (evalE cs a e).fl fun x e1 => (use e1 x).fl fun p e2 => match gt e2 i with
    | .own _ _ => (evalE cs k e2).fl fun y e3 => setX i p (deref e3 y) e3
    | .none => .stk
  | .set2 i k j l a b, e => (evalE cs (.tup (.cons a (.cons b .nil))) e).fl fun x e1 => match deref e1 x with
    | some (.tup [d1, d2]) => if imm d1 && imm d2 then (storeX cs i k d1 e1).seq fun e2 => storeX cs j l d2 e2 else .stk
    | _ => .stk
  | .aug i a, e => match gt e i with
    | .own (.int k) _ => (evalE cs a e).fl fun y e1 => (match deref e1 y with
      | some (.int j) => if i < e1.length then .nx (e1.set i (.own (.int (k + j)) .full)) else .stk
      | _ => .stk)
    | _ => .stk
  | .ex a, e => (evalE cs a e).fl fun _ e1 => .nx e1
  | .app i a, e => match gt e i with
    | .own (.lst _) _ => (evalE cs a e).fl fun x e1 => (use e1 x).fl fun p e2 => (match gt e2 i with
      | .own (.lst ds) lv => if lv ≠ Lv.sh ∧ ds.length < sizeLine then .nx (e2.set i (.own (.lst (ds ++ [p.1])) (addLv lv p.2))) else .stk
      | _ => .stk)
    | _ => .stk
  | .ext i a, e => match gt e i with
    | .own (.lst _) _ => (evalE cs a e).fl fun x e1 => (match deref e1 x with
      | some (.lst _) => kids e1 x
      | _ => .stk).fl fun p e2 => (match gt e2 i with
      | .own (.lst ds) lv => if lv ≠ Lv.sh ∧ ds.length + p.1.length ≤ sizeLine then .nx (e2.set i (.own (.lst (ds ++ p.1)) (addLv lv p.2))) else .stk
      | _ => .stk)
    | _ => .stk
  | .ins i k a, e => match gt e i with
    | .own (.lst _) _ => (evalE cs k e).fl fun y e1 => (match deref e1 y with
      | some (.int j) => (evalE cs a e1).fl fun x e2 => (use e2 x).fl fun p e3 => (match gt e3 i with
        | .own (.lst ds) lv => if lv ≠ Lv.sh ∧ ds.length < sizeLine ∧ 0 ≤ j ∧ j < 2 ^ 63 then .nx (e3.set i (.own (.lst (insAt ds j.toNat p.1)) (addLv lv p.2))) else .stk
        | _ => .stk)
      | _ => .stk)
    | _ => .stk
  | .rem i a, e => match gt e i with
    | .own (.lst _) _ => (evalE cs a e).fl fun x e1 => (match gt e1 i, deref e1 x with
      | .own (.lst ds) lv, some (.int j) => if lv = .sh then .stk else (match intsD ds with
        | some ns => if j ∈ ns then .nx (e1.set i (.own (.lst ((ns.erase j).map .int)) lv)) else .stk
        | none => .stk)
      | _, _ => .stk)
    | _ => .stk
  | .clr i, e => match gt e i with
    | .own (.lst ds) lv => if lv = .sh then .stk else .nx (e.set i (.own (.lst []) .full))
    | _ => .stk
  | .rvs i, e => match gt e i with
    | .own (.lst ds) lv => if lv = .sh then .stk else .nx (e.set i (.own (.lst ds.reverse) lv))
    | _ => .stk
  | .ite c a b, e => (tst (evalE cs c e)).fl fun t e1 => if t then execs a e1 else execs b e1
  | .for g it b, e => (evalI cs it e).fl fun p e1 => (forL (fun q e2 => match bindG g q.1 q.2 e2 with
      | some e3 => execs b e3
      | none => .stk) p.1 e1).restore p.2
  | .forO h i b, e => match gt e i with
    | .own (.lst ds) .full => (forOL h (fun e1 => execs b e1) 0 ds (e.set i .none)).fl fun r e1 => .nx (e1.set i (.own (.lst r) .full))
    | _ => .stk
  | .napp i k a, e => match gt e i with
    | .own (.lst ds) .full => (evalE cs k (e.set i .none)).fl fun y e1 => (match deref e1 y with
      | some (.int j) => (match atI ds j with
        | some (.lst ys) => (evalE cs a e1).fl fun x e2 => (use e2 x).fl fun p e3 => if p.2 = .full ∧ ys.length < sizeLine then (match ixN ds.length j with
            | some n => .nx (e3.set i (.own (.lst (ds.set n (.lst (ys ++ [p.1])))) .full))
            | none => .stk) else .stk
        | _ => .stk)
      | _ => .stk)
    | _ => .stk
  | .whl c b, e => whlL (fun e1 => tst (evalE cs c e1)) (fun e1 => execs b e1) turns e
  | .ret a, e => (evalE cs a e).fl fun x e1 => (use e1 x).fl fun p e2 => .ret p.1 p.2 e2
  | .rtn, e => .ret .non .full e
  | .rais c, e => .exc c e
  | .pass, e => .nx e
  | .brk, e => .brk e
  | .bad, _ => .stk
def execs : Ss → Env → Fl
  | .nil, e => .nx e
  | .cons s r, e => (exec s e).seq fun e1 => execs r e1
end
end
def bl : List S → Ss
  | [] => .nil
  | s :: r => .cons s (bl r)
/-! ### defs -/
structure Fn where
  name : Str
  /-- the names by slot, parameters first -/
  N : List Str
  /-- how many parameters; which of them are changed by the def -/
  np : Nat
  io : List Bool
  body : Ss
def ioOf (fs : List Fn) (f : Str) : List Bool := match fs.find? (fun d => d.name == f) with
  | some d => d.io
  | none => []
/-- the parameters' slots at the end, those of inout ones -/
def outsOf (io : List Bool) : Nat → Env → List Slot
  | 0, _ => []
  | n + 1, e => (if io.headD false then (match e with | s :: _ => s | [] => .none) else .none) :: outsOf io.tail n e.tail
def startE (d : Fn) (as : List (D × Lv)) : Env := as.map (fun p => Slot.own p.1 p.2) ++ List.replicate (d.N.length - as.length) .none
def endOf (d : Fn) : Fl → CR
  | .ret v l e => .ret v l (outsOf d.io d.np e)
  | .nx e => .ret .non .full (outsOf d.io d.np e)
  | .exc c _ => .exc c
  | _ => .stk
def runF (fs : List Fn) : Nat → Str → List (D × Lv) → CR
  | 0, _, _ => .stk
  | k + 1, f, as => match fs.find? (fun d => d.name == f) with
    | some d => if as.length = d.np ∧ d.np ≤ d.N.length then endOf d (execs ⟨ioOf fs, runF fs k⟩ d.body (startE d as)) else .stk
    | none => .stk
def csOf (fs : List Fn) (k : Nat) : CS := ⟨ioOf fs, runF fs k⟩
end VI
namespace VI
open PySem PySem.Spec PyProof.Rows L2

/-! ### several values at once -/
def RXs (σ : L2.St) (H : Hp) (P : Addr → Prop) : List X → List V → FP → Prop
  | [], vs, f => vs = [] ∧ f = fz
  | x :: xs, vs, f => ∃ v r f1 f2, vs = v :: r ∧ RX σ H P x v f1 ∧ RXs σ H P xs r f2 ∧ f = fa f1 f2
theorem RXs.car {σ : L2.St} {H H' : Hp} {P P' : Addr → Prop} : ∀ {xs : List X} {vs : List V} {f : FP}, Car H H' P P' f → RXs σ H P xs vs f → RXs σ H' P' xs vs f
  | [], _, _, _, h => h
  | x :: xs, _, _, c, h => by
    obtain ⟨v, r, f1, f2, e, h1, h2, e2⟩ := h
    subst e2
    exact ⟨v, r, f1, f2, e, RX.car (c.mono fun a => by simp) h1, RXs.car (c.mono fun a => by simp) h2, rfl⟩
theorem RXs.app {σ : L2.St} {H : Hp} {P : Addr → Prop} : ∀ {xs ys : List X} {vs ws : List V} {f g : FP}, RXs σ H P xs vs f → RXs σ H P ys ws g → RXs σ H P (xs ++ ys) (vs ++ ws) (fa f g)
  | [], ys, vs, ws, f, g, h, h' => by
    obtain ⟨rfl, rfl⟩ := h
    rw [fz_a]; exact h'
  | x :: xs, ys, vs, ws, f, g, h, h' => by
    obtain ⟨v, r, f1, f2, e, h1, h2, e2⟩ := h
    subst e e2
    exact ⟨v, r ++ ws, f1, fa f2 g, rfl, h1, RXs.app h2 h', fa_assoc _ _ _⟩
theorem RXs.len {σ : L2.St} {H : Hp} {P : Addr → Prop} : ∀ {xs : List X} {vs : List V} {f : FP}, RXs σ H P xs vs f → xs.length = vs.length
  | [], _, _, h => by rw [h.1]; rfl
  | x :: xs, _, _, h => by
    obtain ⟨v, r, f1, f2, e, h1, h2, e2⟩ := h
    rw [e, List.length_cons, List.length_cons, RXs.len h2]
/-! ### readings -/
section
variable (cs : CS) (W : WC)
def tI (m : E) : TE := fun σ H Q => ∃ e P F, St0 σ e H P F ∧ PX W σ H P (tot F) (evalE cs m e) Q
/-- what is wanted behind a test -/
def PB {α : Type} (W : WC) (σ : L2.St) (H : Hp) (P : Addr → Prop) (T : FP) (r : R α) (Q : α → Hp → Prop) : Prop := match r with
  | .ok b e' => ∀ H' P' F', St0 σ e' H' P' F' → Stp H P T H' P' (tot F') → Q b H'
  | .exc c e' => ∀ H' P' F', St0 σ e' H' P' F' → Stp H P T H' P' (tot F') → W c σ H'
  | .stk => False
def tT (m : E) : TT := fun σ H Q => ∃ e P F, St0 σ e H P F ∧ PB W σ H P (tot F) (tst (evalE cs m e)) Q
def PXs (W : WC) (σ : L2.St) (H : Hp) (P : Addr → Prop) (T : FP) (r : R (List X)) (Q : List V → Hp → Prop) : Prop := match r with
  | .ok xs e' => ∀ vs H' P' F' f, St0 σ e' H' P' F' → RXs σ H' P' xs vs f → Frm f H' P' (tot F') → Stp H P T H' P' (fa (tot F') f) → Q vs H'
  | .exc c e' => ∀ H' P' F', St0 σ e' H' P' F' → Stp H P T H' P' (tot F') → W c σ H'
  | .stk => False
def tAs (ms : Es) : TA := fun σ H Q => ∃ e P F, St0 σ e H P F ∧ PXs W σ H P (tot F) (evalEs cs ms e) Q
/-- behind some parts of an expression: their values vs; G the rest -/
def Ns (σ : L2.St) (vs : List V) (H : Hp) (G : List X → Env → R X) (Q : VK) : Prop :=
  ∃ xs e P F f, St0 σ e H P F ∧ RXs σ H P xs vs f ∧ Frm f H P (tot F) ∧ PX W σ H P (fa (tot F) f) (G xs e) Q
end
section
variable {cs : CS} {W : WC} {σ : L2.St} {H : Hp} {Q : VK}
theorem Ns.start {m : E} {G : List X → Env → R X} (h : tI cs W m σ H Q) (hg : ∀ e, evalE cs m e = G [] e) : Ns W σ [] H G Q := by
  obtain ⟨e, P, F, S, q⟩ := h
  refine ⟨[], e, P, F, fz, S, ⟨rfl, rfl⟩, Frm.z, ?_⟩
  rw [fa_z, ← hg]
  exact q
theorem Ns.next {vs : List V} {G G' : List X → Env → R X} {a : E} (h : Ns W σ vs H G Q) (hg : ∀ xs e, xs.length = vs.length → G xs e = (evalE cs a e).bind fun y e' => G' (xs ++ [y]) e') :
    tI cs W a σ H fun v H' => Ns W σ (vs ++ [v]) H' G' Q := by
  obtain ⟨xs, e, P, F, f, S, rx, fr, q⟩ := h
  refine ⟨e, P, F, S, ?_⟩
  rw [hg xs e rx.len] at q
  cases ea : evalE cs a e with
  | stk => rw [ea] at q; exact q
  | exc c e' =>
    rw [ea] at q
    intro H' P' F' S' st
    exact q H' P' F' S' ((st.wide f).mono (fun _ => Nat.le_refl _) fun a => by simp)
  | ok y e' =>
    rw [ea] at q
    intro v H' P' F' g S' ry fg st
    have fr' := st.frm fr
    refine ⟨xs ++ [y], e', P', F', fa f g, S', (rx.car (st.car fr fun a z => S.sep a z)).app ⟨v, [], g, fz, rfl, ry, ⟨rfl, rfl⟩, (fa_z g).symm⟩, ?_, ?_⟩
    · rw [fa_comm]; exact fg.join fr'
    · have st' : Stp H P (fa (tot F) f) H' P' (fa (tot F') (fa f g)) := by
        have := st.wide f
        rw [fa_assoc, fa_comm g f] at this
        exact this
      exact PX.from st' q
theorem Ns.nexts {vs : List V} {G G' : List X → Env → R X} {es : Es} (h : Ns W σ vs H G Q) (hg : ∀ xs e, xs.length = vs.length → G xs e = (evalEs cs es e).bind fun ys e' => G' (xs ++ ys) e') :
    tAs cs W es σ H fun ws H' => Ns W σ (vs ++ ws) H' G' Q := by
  obtain ⟨xs, e, P, F, f, S, rx, fr, q⟩ := h
  refine ⟨e, P, F, S, ?_⟩
  rw [hg xs e rx.len] at q
  cases ea : evalEs cs es e with
  | stk => rw [ea] at q; exact q
  | exc c e' =>
    rw [ea] at q
    intro H' P' F' S' st
    exact q H' P' F' S' ((st.wide f).mono (fun _ => Nat.le_refl _) fun a => by simp)
  | ok ys e' =>
    rw [ea] at q
    intro ws H' P' F' g S' ry fg st
    have fr' := st.frm fr
    refine ⟨xs ++ ys, e', P', F', fa f g, S', (rx.car (st.car fr fun a z => S.sep a z)).app ry, ?_, ?_⟩
    · rw [fa_comm]; exact fg.join fr'
    · have st' : Stp H P (fa (tot F) f) H' P' (fa (tot F') (fa f g)) := by
        have := st.wide f
        rw [fa_assoc, fa_comm g f] at this
        exact this
      exact PX.from st' q
/-- the last part of an expression is the expression's own end -/
theorem Ns.tail {vs : List V} {G : List X → Env → R X} {a : E} (h : Ns W σ vs H G Q) (hg : ∀ xs e, xs.length = vs.length → G xs e = evalE cs a e) : tI cs W a σ H Q := by
  obtain ⟨xs, e, P, F, f, S, rx, fr, q⟩ := h
  rw [hg xs e rx.len] at q
  refine ⟨e, P, F, S, ?_⟩
  exact PX.from ((Stp.refl H P (tot F)).mono (fun a => by simp) fun a => Nat.le_refl _ |> fun h => h) q |> fun z => z
end
theorem pe_imp {X : Cx} {e : Expr} {t t' : TE} (h : PE X e t) (i : ∀ σ H Q, t' σ H Q → t σ H Q) : PE X e t' := ⟨fun pins s σ H Q I q => h.run pins s σ H Q I (i σ H Q q)⟩
theorem pt_imp {X : Cx} {e : Expr} {t t' : TT} (h : PT X e t) (i : ∀ σ H Q, t' σ H Q → t σ H Q) : PT X e t' := ⟨fun pins s σ H Q I q => h.run pins s σ H Q I (i σ H Q q)⟩
theorem pa_imp {X : Cx} {e : List Expr} {t t' : TA} (h : PA X e t) (i : ∀ σ H Q, t' σ H Q → t σ H Q) : PA X e t' := ⟨fun pos pins s σ H Q I q => h.run pos pins s σ H Q I (i σ H Q q)⟩
theorem ps_imp {X : Cx} {e : Stmt} {t t' : TS} (h : PS X e t) (i : ∀ D σ H, t' D σ H → t D σ H) : PS X e t' := ⟨fun pins s σ H D I q => h.run pins s σ H D I (i D σ H q)⟩
theorem pss_imp {X : Cx} {e : List Stmt} {t t' : TS} (h : PSs X e t) (i : ∀ D σ H, t' D σ H → t D σ H) : PSs X e t' := ⟨fun pins s σ H D I q => h.run pins s σ H D I (i D σ H q)⟩
end VI
namespace VI
open PySem PySem.Spec PyProof.Rows L2

/-! ### new objects -/
section
variable {σ : L2.St} {e : Env} {H : Hp} {P : Addr → Prop} {F : List FP} {f : FP} {p : Addr} {ds : List D} {xs : List V} {k : Lv} {W : WC} {T : FP} {Q : VK}
theorem new_ne {o : HO} (h : H p = none) {a : Addr} {u : HO} (q : H a = some u) : (upd H p o) a = some u := by
  rw [upd_ne (ne_of_none q h)]; exact q
theorem car_new (o : HO) (h : H p = none) (g : FP) : Car H (upd H p o) P P g :=
  ⟨fun _ _ _ q => new_ne h q, fun _ _ _ q => new_ne h q, fun a xs r => by
    rcases r with r | ⟨o', r⟩
    · exact .inl (new_ne h r)
    · exact .inr ⟨o', new_ne h r⟩, fun _ z => z⟩
/-- a new object at p; it owns itself (s = 1) or nothing -/
theorem Stp.new (o : HO) (h : H p = none) (T : FP) : Stp H P T (upd H p o) P (fa T (fo p)) where
  keep := fun _ _ q _ => new_ne h q
  tups := fun a xs r => (car_new (P := P) o h fz).tup a xs r
  newP := fun _ z => .inl z
  oldP := fun _ z => z
  newT := fun a z => by
    by_cases q : a = p
    · subst q; exact .inr h
    · simp [fo, q] at z; exact .inl z
  dom := fun a z => by
    cases q : H a with
    | none => exact absurd q z
    | some u => rw [new_ne h q]; simp
theorem St0.new (S : St0 σ e H P F) (o : HO) (h : H p = none) : St0 σ e (upd H p o) P F where
  rel := Rels.car (car_new o h _) S.rel
  one := S.one
  sep := S.sep
  inP := fun a z => (Stp.new (P := P) o h fz).dom a (S.inP a z)
  inT := fun a z => (Stp.new (P := P) o h fz).dom a (S.inT a z)
theorem St0.free (S : St0 σ e H P F) (h : H p = none) : tot F p = 0 ∧ ¬ P p :=
  ⟨Nat.eq_zero_of_not_pos fun z => S.inT p z h, fun z => S.inP p z h⟩
theorem Frm.new (S : St0 σ e H P F) (fr : Frm f H P (tot F)) (o : HO) (h : H p = none) : Frm (fa (fo p) f) (upd H p o) P (tot F) := fun a z => by
  by_cases q : a = p
  · subst q
    have h0 : f a = 0 := Nat.eq_zero_of_not_pos fun z => (fr a z).2.2.2 h
    obtain ⟨h1, h2⟩ := S.free h
    exact ⟨by simp [fo, h0], h1, h2, by rw [upd_same]; simp⟩
  · have z' : 1 ≤ f a := by simpa [fo, q] using z
    obtain ⟨h1, h2, h3, h4⟩ := fr a z'
    refine ⟨by simp [fo, q, h1], h2, h3, ?_⟩
    rw [upd_ne q]; exact h4
theorem succ_pred (k : Lv) (hk : k ≠ .top) : k.succ.pred = k := by cases k <;> first | rfl | exact absurd rfl hk
/-- a new list is what is wanted -/
theorem PX.newL (S : St0 σ e H P F) (q : RepL H P ds k xs f) (hk : k ≠ .top) (fr : Frm f H P (tot F)) (hT : ∀ a, tot F a + f a ≤ T a) (h : PX W σ H P T (.ok (mkL ds k) e) Q) (hp : H p = none) : Q (.ref p) (upd H p (.lst xs)) := by
  refine h (.ref p) (upd H p (.lst xs)) P F (fa (fo p) f) (S.new _ hp) ?_ (fr.new S _ hp) ?_
  · show RepD _ P (.lst ds) k.succ (.ref p) _
    refine ⟨p, xs, f, rfl, ?_, .inr ⟨by cases k <;> simp [Lv.succ], upd_same, rfl⟩⟩
    rw [succ_pred k hk]
    exact RepL.car (car_new _ hp _) q
  · refine (Stp.new (P := P) (.lst xs) hp T).mono (fun _ => Nat.le_refl _) fun a => ?_
    have := hT a
    simp; omega
theorem PX.newT (S : St0 σ e H P F) (q : RepL H P ds k xs f) (hk : k ≠ .top) (fr : Frm f H P (tot F)) (hT : ∀ a, tot F a + f a ≤ T a) (h : PX W σ H P T (.ok (mkT ds k) e) Q) (hp : H p = none) : Q (.ref p) (upd H p (.tup xs)) := by
  refine h (.ref p) (upd H p (.tup xs)) P F f (S.new _ hp) ?_ ?_ ?_
  · show RepD _ P (.tup ds) k (.ref p) _
    refine ⟨p, xs, rfl, .inl upd_same, ?_⟩
    have e : k.pred = k := by cases k <;> first | rfl | exact absurd rfl hk
    rw [e]
    exact RepL.car (car_new _ hp _) q
  · exact (fr.new S (.tup xs) hp).mono fun a => by simp
  · refine (Stp.new (P := P) (.tup xs) hp T).mono (fun _ => Nat.le_refl _) fun a => ?_
    have := hT a
    simp; omega
end
/-- an end without the heap -/
theorem PX.val {W : WC} {σ : L2.St} {e : Env} {H : Hp} {P : Addr → Prop} {F : List FP} {T : FP} {d : D} {v : V} {Q : VK} (S : St0 σ e H P F) (hT : ∀ a, tot F a ≤ T a) (q : RepD H P d .full v fz) (h : PX W σ H P T (.ok (im d) e) Q) : Q v H := h.plain S hT q
/-! ### what a datum's value is -/
section
variable {H : Hp} {P : Addr → Prop} {l : Lv} {v : V} {f : FP}
theorem rep_int {i : Int} (h : RepD H P (.int i) l v f) : v = .int i := h.1
theorem rep_bl {i : Bool} (h : RepD H P (.bl i) l v f) : v = .bl i := h.1
theorem rep_str {i : Str} (h : RepD H P (.str i) l v f) : v = .str i := h.1
theorem rep_lst {ds : List D} (h : RepD H P (.lst ds) l v f) : ∃ a xs g, v = .ref a ∧ Rd H a (.lst xs) ∧ RepL H P ds l.pred xs g := by
  obtain ⟨a, xs, g, e, q, z⟩ := h
  rcases z with ⟨e1, e2, e3, e4⟩ | ⟨e1, e3, e4⟩
  · exact ⟨a, xs, g, e, e3, q⟩
  · exact ⟨a, xs, g, e, .inl e3, q⟩
theorem rep_lstF {ds : List D} (h : RepD H P (.lst ds) l v f) : ∃ a xs g, v = .ref a ∧ Rd H a (.lst xs) ∧ RepL H P ds l.pred xs g ∧ ∀ c, g c ≤ f c := by
  obtain ⟨a, xs, g, e, q, z⟩ := h
  rcases z with ⟨e1, e2, e3, e4⟩ | ⟨e1, e3, e4⟩
  · exact ⟨a, xs, g, e, e3, q, fun c => by rw [e4]; exact Nat.le_refl _⟩
  · exact ⟨a, xs, g, e, .inl e3, q, fun c => by rw [e4]; simp⟩
theorem rep_tup {ds : List D} (h : RepD H P (.tup ds) l v f) : ∃ a xs, v = .ref a ∧ Rd H a (.tup xs) ∧ RepL H P ds l.pred xs f := h
end
mutual
/-- data to be read by == and in -/
theorem RepD.dp {K : PySem.W.Frag} {H : Hp} {P : Addr → Prop} : ∀ {d : D} {l : Lv} {v : V} {f : FP}, (py d).canLay0 = true → RepD H P d l v f → Dp K H v (py d)
  | .non, _, _, _, _, h => by rw [h.1]; exact .non
  | .bl _, _, _, _, _, h => by rw [h.1]; exact .bl _
  | .int _, _, _, _, _, h => by rw [h.1]; exact .int _
  | .str _, _, _, _, _, h => by rw [h.1]; exact .str _
  | .tup ds, l, v, f, c, h => by
    obtain ⟨a, xs, e, r, q⟩ := h
    rw [e]
    exact .tup (.inl r) (RepL.dp (by simpa [py, PyData.canLay0] using c) q)
  | .lst ds, l, v, f, c, h => by
    obtain ⟨a, xs, g, e, r, q⟩ := rep_lst h
    rw [e]
    exact .lst (.inl r) (RepL.dp (by simpa [py, PyData.canLay0] using c) q)
  | .dK _, _, _, _, c, _ => by simp [py, PyData.canLay0] at c
  | .dT _, _, _, _, c, _ => by simp [py, PyData.canLay0] at c
  | .hole, _, _, _, c, _ => by simp [py, PyData.canLay0] at c
theorem RepL.dp {K : PySem.W.Frag} {H : Hp} {P : Addr → Prop} : ∀ {ds : List D} {l : Lv} {xs : List V} {f : FP}, PyData.canLayAll0 (pyL ds) = true → RepL H P ds l xs f → DpAll K H xs (pyL ds)
  | [], _, _, _, _, h => by rw [h.1]; exact .nil
  | d :: ds, l, _, _, c, h => by
    obtain ⟨x, r, f1, f2, e, h1, h2, e2⟩ := h
    have c' : (py d).canLay0 = true ∧ PyData.canLayAll0 (pyL ds) = true := by simpa [pyL, PyData.canLayAll0] using c
    rw [e]
    exact .cons (RepD.dp c'.1 h1) (RepL.dp c'.2 h2)
end
/-! ### operators by values -/
section
variable {Y : Cx}
def rCatR : R2 := fun x y H Q => ∃ l b xs zs, x = .ref l ∧ y = .ref b ∧ Rd H l (.lst xs) ∧ Rd H b (.lst zs) ∧ xs.length + zs.length ≤ sizeLine ∧ ∀ p, H p = none → Q (.ref p) (upd H p (.lst (xs ++ zs)))
theorem op_catR : OpR Y (binaryOp .Add) rCatR := by
  intro pins s σ H x y v u Q I rx ry h
  obtain ⟨l, b, xs, zs, rfl, rfl, hH, hB, hz, q⟩ := h
  cases rx
  cases ry
  obtain ⟨z, its, n, r, e⟩ := hH.ok I.hok
  obtain ⟨z2, its2, n2, r2, e2⟩ := hB.ok I.hok
  have hl := r.length
  have hl2 := r2.length
  refine PySem.P.add_list e e2 ?_ (by rw [List.size_toArray, List.size_toArray]; omega)
  have ea : its.toArray ++ its2.toArray = (its ++ its2).toArray := by simp
  rw [ea]
  exact ⟨.ref _, _, I.lnew (t' := s.toks) (r.append r2) (by rw [List.length_append]; omega), rfl, q _ I.fresh⟩
def rStr : R2 := fun x y H Q => ∃ i j, x = .str i ∧ y = .str j ∧ i.length + j.length ≤ sizeLine ∧ Q (.str (i ++ j)) H
def rAddA (K : PySem.W.Frag) : R2 := fun x y H Q => rI0 (fun i j => .int (i + j)) x y H Q ∨ rStr x y H Q ∨ rCatR x y H Q ∨ rCatA K x y H Q
theorem op_addA : OpR Y (binaryOp .Add) (rAddA Y.K) := op_add.or (op_add_str.or (op_catR.or op_catA))
def rMulA : R2 := fun x y H Q => rI CMul (fun i j => .int (i * j)) x y H Q ∨ rRep x y H Q ∨ rI CMulW (fun i j => .int (i * j)) x y H Q
theorem op_mulA : OpR Y (binaryOp .Mult) rMulA := op_mul.or (op_rep.or op_mulW)
theorem op_powW : OpR Y (binaryOp .Pow) (rI CPowW fun i j => .int (i ^ j.toNat)) := L2.opI fun i j _ _ _ _ _ hc q => by
  have b : Builtin.Int.intBits i ≤ i.natAbs.log2 + 1 := by
    unfold Builtin.Int.intBits
    split <;> omega
  have h1 : (Builtin.Int.intBits i : Int) * j ≤ ((i.natAbs.log2 + 1 : Nat) : Int) * j := Int.mul_le_mul_of_nonneg_right (by omega) hc.1
  exact pow_int hc.1 (Int.le_trans h1 (Int.le_trans hc.2 (by decide))) q
def rPowA : R2 := fun x y H Q => rI CPow (fun i j => .int (i ^ j.toNat)) x y H Q ∨ rI CPowW (fun i j => .int (i ^ j.toNat)) x y H Q
theorem op_powA : OpR Y (binaryOp .Pow) rPowA := op_pow.or op_powW
def rDivA : R2 := fun x y H Q => rI CDiv (fun i j => .int (i / j)) x y H Q ∨ rI CDivW (fun i j => .int (i / j)) x y H Q
theorem op_divA : OpR Y (binaryOp .FloorDiv) rDivA := op_fdiv.or op_fdivW
def opC : Op2 → Operator
  | .add => .Add | .sub => .Sub | .mul => .Mult | .fdiv => .FloorDiv | .mod => .Mod | .pow => .Pow | .shl => .LShift | .shr => .RShift | .band => .BitAnd
def rOp (K : PySem.W.Frag) : Op2 → R2
  | .add => rAddA K
  | .sub => rI0 fun i j => .int (i - j)
  | .mul => rMulA
  | .fdiv => rDivA
  | .mod => rI (fun _ j => 0 < j) fun i j => .int (i % j)
  | .pow => rPowA
  | .shl => rI CPow fun i j => .int (i * 2 ^ j.toNat)
  | .shr => rI (fun _ j => 0 ≤ j) fun i j => .int (i / 2 ^ j.toNat)
  | .band => rI0 fun i j => .int (Builtin.bitAnd i j)
theorem op_all (o : Op2) : OpR Y (binaryOp (opC o)) (rOp Y.K o) := by
  cases o
  · exact op_addA
  · exact op_sub
  · exact op_mulA
  · exact op_divA
  · exact op_mod
  · exact op_powA
  · exact op_shl
  · exact op_shr
  · exact op_and
end
/- two kept lists of items -/
section
variable {σ : L2.St} {e e1 e2 : Env} {H : Hp} {P : Addr → Prop} {F : List FP} {x y : X} {v w : V} {f g : FP} {T : FP} {W : WC} {Q : VK} {K : PySem.W.Frag}
theorem lmin_ne (a b : Lv) : lmin a b ≠ .top := by cases a <;> cases b <;> simp [lmin]
theorem kids_lv {ds : List D} {l : Lv} (h : kids e x = .ok (ds, l) e1) : l ≠ .top := by
  unfold kids at h
  split at h
  · injection h with h1 _; injection h1 with _ h2; rw [← h2]; split <;> simp [Lv.pred]; split <;> simp
  · injection h with h1 _; injection h1 with _ h2; rw [← h2]; split <;> simp [Lv.pred]; split <;> simp
  · cases h
  · split at h
    · split at h
      · injection h with h1 _; injection h1 with _ h2; rw [← h2]; simp
      · injection h with h1 _; injection h1 with _ h2; rw [← h2]; simp
    · split at h
      · injection h with h1 _; injection h1 with _ h2; rw [← h2]; simp
      · injection h with h1 _; injection h1 with _ h2; rw [← h2]; simp
    · cases h
/-- items at a lower level -/
theorem RepL.lower {ds : List D} {xs : List V} {k l : Lv} (S : St0 σ e H P F) (q : RepL H P ds k xs f) (fr : Frm f H P (tot F)) (hk : k ≠ .top) (hl : l ≠ .top) (h : l = .full → k = .full) :
    ∃ P' f', St0 σ e H P' F ∧ RepL H P' ds l xs f' ∧ Frm f' H P' (tot F) ∧ Stp H P (fa (tot F) f) H P' (fa (tot F) f') := by
  cases l with
  | full =>
    rw [h rfl] at q
    exact ⟨P, f, S, q, fr, .refl _ _ _⟩
  | top => exact absurd rfl hl
  | sh =>
    have q' : RepL H (pAdd P f) ds .sh xs fz := RepL.shr (fun _ h => .inl h) (fun _ h => .inr h) q
    refine ⟨pAdd P f, fz, ⟨Rels.car ⟨fun _ _ _ h => h, fun _ _ _ h => h, fun _ _ h => h, fun _ h => .inl h⟩ S.rel, S.one, fun a z => ?_, fun a z => ?_, S.inT⟩, q', Frm.z, .share (fun a => by simp) fun a => by simp⟩
    · rcases z with z | z
      · exact S.sep a z
      · exact (fr a z).2.1
    · rcases z with z | z
      · exact S.inP a z
      · exact (fr a z).2.2.2
/-- the items of two values, kept; the second's kept behind the first's -/
theorem kids2_ok {ds es : List D} {k l : Lv} (S : St0 σ e H P F) (rx : RX σ H P x v f) (ry : RX σ H P y w g) (fr : Frm (fa f g) H P (tot F)) (h1 : kids e x = .ok (ds, k) e1) (h2 : kids e1 y = .ok (es, l) e2) :
    ∃ P' F' f' a xs b ys, St0 σ e2 H P' F' ∧ v = .ref a ∧ w = .ref b ∧ RepL H P' (ds ++ es) (lmin k l) (xs ++ ys) f' ∧ Frm f' H P' (tot F') ∧ Stp H P (fa (tot F) (fa f g)) H P' (fa (tot F') f') ∧
      ((deref e x = some (.lst ds) ∧ Rd H a (.lst xs)) ∨ (deref e x = some (.tup ds) ∧ Rd H a (.tup xs))) ∧ ((deref e1 y = some (.lst es) ∧ Rd H b (.lst ys)) ∨ (deref e1 y = some (.tup es) ∧ Rd H b (.tup ys))) ∧ xs.length = ds.length ∧ ys.length = es.length := by
  obtain ⟨P1, F1, f1, a, xs, S1, ea, q1, fr1, st1, d1⟩ := kids_ok S rx fr.fst h1
  have frg := (Stp.frm st1 fr.right)
  have ry1 := ry.car (st1.car fr.right fun b z => by
    have := S.sep b z
    have h0 : f b = 0 := Nat.eq_zero_of_not_pos fun q => (fr.fst b q).2.2.1 z
    simp [this, h0])
  have frg' : Frm g H P1 (tot F1) := frg.less fun b => by simp
  obtain ⟨P2, F2, g2, b, ys, S2, eb, q2, fr2, st2, d2⟩ := kids_ok S1 ry1 frg' h2
  have fr1' : Frm f1 H P1 (fa (tot F1) g) := fun c z => by
    obtain ⟨z1, z2, z3, z4⟩ := fr1 c z
    refine ⟨z1, ?_, z3, z4⟩
    have : g c = 0 := Nat.eq_zero_of_not_pos fun q => by
      have := (frg c q).2.1
      simp at this; omega
    simp [z2, this]
  have frf := st2.frm fr1'
  have q1' := RepL.car (st2.car fr1' fun c z => by
    have h1 := S1.sep c z
    have h2 : g c = 0 := Nat.eq_zero_of_not_pos fun q => (frg' c q).2.2.1 z
    simp [h1, h2]) q1
  have frf1 : Frm f1 H P2 (tot F2) := frf.less fun c => by simp
  -- both at the common level
  have kl1 := kids_lv h1
  have kl2 := kids_lv h2
  have ll := lmin_ne k l
  have lf1 : lmin k l = .full → k = .full := by cases k <;> cases l <;> simp [lmin]
  have lf2 : lmin k l = .full → l = .full := by cases k <;> cases l <;> simp [lmin]
  obtain ⟨P3, f3, S3, q3, fr3, st3⟩ := RepL.lower S2 q1' frf1 kl1 ll lf1
  have frg2 : Frm g2 H P2 (fa (tot F2) f1) := fun c z => by
    obtain ⟨z1, z2, z3, z4⟩ := fr2 c z
    refine ⟨z1, ?_, z3, z4⟩
    have : f1 c = 0 := Nat.eq_zero_of_not_pos fun q => by
      have := (frf c q).2.1
      simp at this; omega
    simp [z2, this]
  have frg3 := st3.frm frg2
  have q2' := RepL.car (st3.car frg2 fun c z => by
    have h1 := S2.sep c z
    have h2 : f1 c = 0 := Nat.eq_zero_of_not_pos fun q => (frf1 c q).2.2.1 z
    simp [h1, h2]) q2
  obtain ⟨P4, g4, S4, q4, fr4, st4⟩ := RepL.lower S3 q2' (frg3.less fun c => by simp) kl2 ll lf2
  have fr34 : Frm f3 H P3 (fa (tot F2) g2) := fun c z => by
    obtain ⟨z1, z2, z3, z4⟩ := fr3 c z
    refine ⟨z1, ?_, z3, z4⟩
    have : g2 c = 0 := Nat.eq_zero_of_not_pos fun q => by
      have := (frg3 c q).2.1
      simp at this; omega
    simp [z2, this]
  have q3' := RepL.car (st4.car fr34 fun c z => by
    have h1 := S3.sep c z
    have h2 : g2 c = 0 := Nat.eq_zero_of_not_pos fun q => (frg3 c q).2.2.1 z
    simp [h1, h2]) q3
  have fr4f := st4.frm fr34
  refine ⟨P4, F2, fa f3 g4, a, xs, b, ys, S4, ea, eb, q3'.app q4, ?_, ?_, d1, d2, q1.len, q2.len⟩
  · exact Frm.join (fr4f.less fun c => by simp) (fun c z => by
      obtain ⟨z1, z2, z3, z4⟩ := fr4 c z
      refine ⟨z1, ?_, z3, z4⟩
      have : f3 c = 0 := Nat.eq_zero_of_not_pos fun q => by
        have := (fr4f c q).2.1
        simp at this; omega
      simp [z2, this])
  · have s1 : Stp H P (fa (tot F) (fa f g)) H P1 (fa (fa (tot F1) f1) g) := by
      rw [← fa_assoc]; exact st1.wide g
    have s2 : Stp H P1 (fa (fa (tot F1) f1) g) H P2 (fa (fa (tot F2) g2) f1) := by
      have := st2.wide f1
      refine this.mono (fun c => by simp; omega) fun c => Nat.le_refl _
    have s3 : Stp H P2 (fa (fa (tot F2) g2) f1) H P3 (fa (fa (tot F2) f3) g2) := by
      have := st3.wide g2
      refine this.mono (fun c => by simp; omega) fun c => Nat.le_refl _
    have s4 : Stp H P3 (fa (fa (tot F2) f3) g2) H P4 (fa (tot F2) (fa f3 g4)) := by
      have := st4.wide f3
      refine this.mono (fun c => by simp; omega) fun c => by simp; omega
    exact ((s1.trans s2).trans s3).trans s4
end
end VI
namespace VI
open PySem PySem.Spec PyProof.Rows L2
section
variable {W : WC} {σ : L2.St} {H : Hp} {Q : VK} {K : PySem.W.Frag}
/-- two values, opened -/
theorem Ns.two {v w : V} {G : List X → Env → R X} (h : Ns W σ [v, w] H G Q) :
    ∃ x y e P F f g, St0 σ e H P F ∧ RX σ H P x v f ∧ RX σ H P y w g ∧ Frm (fa f g) H P (tot F) ∧ PX W σ H P (fa (tot F) (fa f g)) (G [x, y] e) Q := by
  obtain ⟨xs, e, P, F, f, S, rx, fr, q⟩ := h
  match xs, rx with
  | [], ⟨h, _⟩ => cases h
  | [x], ⟨_, _, _, _, h, _, ⟨h', _⟩, _⟩ => subst h'; cases h
  | x :: y :: r, ⟨_, _, f1, f2, h1, h2, ⟨_, _, f3, f4, h3, h4, h5, h6⟩, h7⟩ =>
    cases r with
    | cons _ _ =>
      obtain ⟨_, _, _, _, h8, _⟩ := h5
      subst h8 h3; cases h1
    | nil =>
      obtain ⟨h8, h9⟩ := h5
      subst h8 h9 h3 h6 h7
      injection h1 with h1 h10
      injection h10 with h10 _
      subst h1 h10
      rw [fa_z] at fr q
      exact ⟨x, y, e, P, F, f1, f3, S, h2, h4, fr, q⟩
theorem Ns.one {v : V} {G : List X → Env → R X} (h : Ns W σ [v] H G Q) :
    ∃ x e P F f, St0 σ e H P F ∧ RX σ H P x v f ∧ Frm f H P (tot F) ∧ PX W σ H P (fa (tot F) f) (G [x] e) Q := by
  obtain ⟨xs, e, P, F, f, S, rx, fr, q⟩ := h
  match xs, rx with
  | [], ⟨h, _⟩ => cases h
  | x :: r, ⟨_, _, f1, f2, h1, h2, h5, h7⟩ =>
    cases r with
    | cons _ _ =>
      obtain ⟨_, _, _, _, h8, _⟩ := h5
      subst h8; cases h1
    | nil =>
      obtain ⟨h8, h9⟩ := h5
      subst h8 h9 h7
      injection h1 with h1 h10
      subst h1
      rw [fa_z] at fr q
      exact ⟨x, e, P, F, f1, S, h2, fr, q⟩
theorem Ns.thr {v w u : V} {G : List X → Env → R X} (h : Ns W σ [v, w, u] H G Q) :
    ∃ x y z e P F f g k, St0 σ e H P F ∧ RX σ H P x v f ∧ RX σ H P y w g ∧ RX σ H P z u k ∧ Frm (fa f (fa g k)) H P (tot F) ∧ PX W σ H P (fa (tot F) (fa f (fa g k))) (G [x, y, z] e) Q := by
  obtain ⟨xs, e, P, F, f, S, rx, fr, q⟩ := h
  have hl := rx.len
  match xs, hl with
  | [x, y, z], _ =>
    obtain ⟨v1, r1, f1, f2, h1, h2, rx2, e1⟩ := rx
    obtain ⟨v2, r2, f3, f4, h3, h4, rx3, e2⟩ := rx2
    obtain ⟨v3, r3, f5, f6, h5, h6, rx4, e3⟩ := rx3
    obtain ⟨e4, e5⟩ := rx4
    subst e5 e4 h5 e3 h3 e2 e1
    injection h1 with h1 ha
    injection ha with ha hb
    injection hb with hb _
    subst h1 ha hb
    rw [fa_z] at fr q
    exact ⟨x, y, z, e, P, F, f1, f3, f5, S, h2, h4, h6, fr, q⟩
def g2 (f : X → X → Env → R X) : List X → Env → R X := fun xs e => match xs with
  | [x, y] => f x y e
  | _ => .stk
def g1 (f : X → Env → R X) : List X → Env → R X := fun xs e => match xs with
  | [x] => f x e
  | _ => .stk
def g3 (f : X → X → X → Env → R X) : List X → Env → R X := fun xs e => match xs with
  | [x, y, z] => f x y z e
  | _ => .stk
theorem fa_le {f g : FP} (a : Addr) : f a ≤ fa f g a := by simp
theorem kids_bind {x : X} {e : Env} {P : Addr → Prop} {T : FP} {g : List D × Lv → Env → R X} (h : PX W σ H P T ((kids e x).bind g) Q) : ∃ ds k e1, kids e x = .ok (ds, k) e1 ∧ PX W σ H P T (g (ds, k) e1) Q := by
  cases q : kids e x with
  | stk => rw [q] at h; exact h.elim
  | exc c e' =>
    unfold kids at q
    split at q
    · cases q
    · cases q
    · cases q
    · split at q
      · split at q <;> cases q
      · split at q <;> cases q
      · cases q
  | ok p e1 =>
    rw [q] at h
    exact ⟨p.1, p.2, e1, rfl, h⟩
theorem use_bind {x : X} {e : Env} {P : Addr → Prop} {T : FP} {g : D × Lv → Env → R X} (h : PX W σ H P T ((use e x).bind g) Q) : ∃ d k e1, use e x = .ok (d, k) e1 ∧ PX W σ H P T (g (d, k) e1) Q := by
  cases q : use e x with
  | stk => rw [q] at h; exact h.elim
  | exc c e' =>
    unfold use at q
    split at q
    · cases q
    · split at q
      · split at q <;> cases q
      · cases q
  | ok p e1 =>
    rw [q] at h
    exact ⟨p.1, p.2, e1, rfl, h⟩
theorem ofO_px {o : Option X} {e : Env} {P : Addr → Prop} {T : FP} (h : PX W σ H P T (ofO o e) Q) : ∃ x, o = some x ∧ PX W σ H P T (.ok x e) Q := by
  cases o with
  | none => exact h.elim
  | some x => exact ⟨x, rfl, h⟩
theorem kids_same {e e1 : Env} {x y : X} {p : List D × Lv} {d : D} (h : kids e x = .ok p e1) (hd : deref e y = some d) : deref e1 y = some d := by
  have key : ∀ (i : Nat) (d' : D) (l l' : Lv), gt e i = .own d' l → deref (e.set i (.own d' l')) y = some d := fun i d' l l' q => by
    cases y with
    | tmp _ _ => exact hd
    | ali j =>
      by_cases hj : i = j
      · subst hj
        have hd' : (match gt e i with | .own d _ => some d | .none => none) = some d := hd
        rw [q] at hd'
        cases hd'
        have hi := (List.getElem?_eq_some_iff.mp (gt_own q)).1
        show (match gt (e.set i (.own d l')) i with | .own d _ => some d | .none => none) = some d
        rw [gt_of (List.getElem?_set_self hi)]
      · have : gt (e.set i (.own d' l')) j = gt e j := by
          unfold gt
          rw [List.getD_eq_getElem?_getD, List.getD_eq_getElem?_getD, List.getElem?_set_ne hj]
        show (match gt (e.set i (.own d' l')) j with | .own d _ => some d | .none => none) = some d
        rw [this]; exact hd
  unfold kids at h
  split at h
  · cases h; exact hd
  · cases h; exact hd
  · cases h
  · split at h
    · rename_i q
      split at h
      · cases h; exact hd
      · cases h; exact key _ _ _ _ q
    · rename_i q
      split at h
      · cases h; exact hd
      · cases h; exact key _ _ _ _ q
    · cases h
theorem opI_ok {o : Op2} {i j k : Int} (h : opI o i j = some k) (q : Q (.int k) H) : rOp K o (.int i) (.int j) H Q := by
  cases o with
  | add => cases h; exact .inl ⟨i, j, rfl, rfl, q⟩
  | sub => cases h; exact ⟨i, j, rfl, rfl, q⟩
  | mul =>
    by_cases c : CMul i j
    · have h' : (if CMul i j then some (i * j) else if CMulW i j then some (i * j) else none) = some k := h
      rw [if_pos c] at h'; cases h'
      exact .inl ⟨i, j, rfl, rfl, c, q⟩
    · have h' : (if CMul i j then some (i * j) else if CMulW i j then some (i * j) else none) = some k := h
      rw [if_neg c] at h'
      by_cases c2 : CMulW i j
      · rw [if_pos c2] at h'; cases h'
        exact .inr (.inr ⟨i, j, rfl, rfl, c2, q⟩)
      · rw [if_neg c2] at h'; cases h'
  | fdiv =>
    have h' : (if CDiv i j then some (i / j) else if CDivW i j then some (i / j) else none) = some k := h
    by_cases c : CDiv i j
    · rw [if_pos c] at h'; cases h'
      exact .inl ⟨i, j, rfl, rfl, c, q⟩
    · rw [if_neg c] at h'
      by_cases c2 : CDivW i j
      · rw [if_pos c2] at h'; cases h'
        exact .inr ⟨i, j, rfl, rfl, c2, q⟩
      · rw [if_neg c2] at h'; cases h'
  | mod =>
    have h' : (if 0 < j then some (i % j) else none) = some k := h
    by_cases c : 0 < j
    · rw [if_pos c] at h'; cases h'; exact ⟨i, j, rfl, rfl, c, q⟩
    · rw [if_neg c] at h'; cases h'
  | pow =>
    have h' : (if CPow i j then some (i ^ j.toNat) else if CPowW i j then some (i ^ j.toNat) else none) = some k := h
    by_cases c : CPow i j
    · rw [if_pos c] at h'; cases h'; exact .inl ⟨i, j, rfl, rfl, c, q⟩
    · rw [if_neg c] at h'
      by_cases c2 : CPowW i j
      · rw [if_pos c2] at h'; cases h'; exact .inr ⟨i, j, rfl, rfl, c2, q⟩
      · rw [if_neg c2] at h'; cases h'
  | shl =>
    have h' : (if CPow i j then some (i * 2 ^ j.toNat) else none) = some k := h
    by_cases c : CPow i j
    · rw [if_pos c] at h'; cases h'; exact ⟨i, j, rfl, rfl, c, q⟩
    · rw [if_neg c] at h'; cases h'
  | shr =>
    have h' : (if 0 ≤ j then some (i / 2 ^ j.toNat) else none) = some k := h
    by_cases c : 0 ≤ j
    · rw [if_pos c] at h'; cases h'; exact ⟨i, j, rfl, rfl, c, q⟩
    · rw [if_neg c] at h'; cases h'
  | band => cases h; exact ⟨i, j, rfl, rfl, q⟩
theorem immL_rep {ds : List D} (h : immL ds = true) : ∀ n : Nat, immL (List.replicate n ds).flatten = true := by
  have app : ∀ xs ys : List D, immL xs = true → immL ys = true → immL (xs ++ ys) = true := by
    intro xs ys h1 h2
    induction xs with
    | nil => exact h2
    | cons x r ih =>
      simp only [immL, Bool.and_eq_true] at h1
      simp only [List.cons_append, immL, Bool.and_eq_true]
      exact ⟨h1.1, ih h1.2⟩
  intro n
  induction n with
  | zero => rfl
  | succ n ih => rw [List.replicate_succ, List.flatten_cons]; exact app _ _ h ih
theorem RepL.rep {P : Addr → Prop} {ds : List D} {xs : List V} (h : RepL H P ds .full xs fz) : ∀ n : Nat, RepL H P (List.replicate n ds).flatten .full (List.replicate n xs).flatten fz := by
  intro n
  induction n with
  | zero => exact ⟨rfl, rfl⟩
  | succ n ih =>
    rw [List.replicate_succ, List.flatten_cons, List.replicate_succ, List.flatten_cons]
    have := h.app ih
    rwa [fa_z] at this
theorem opX_ok {op : Op2} {v w : V} (h : Ns W σ [v, w] H (g2 (opX op)) Q) : rOp K op v w H Q := by
  obtain ⟨x, y, e, P, F, f, g, S, rx, ry, fr, q⟩ := h.two
  replace q : PX W σ H P (fa (tot F) (fa f g)) (opX op x y e) Q := q
  clear h
  unfold opX at q
  split at q
  · rename_i i j hx hy
    obtain ⟨l1, g1, r1⟩ := deref_ok S rx hx
    obtain ⟨l2, g2, r2⟩ := deref_ok S ry hy
    obtain rfl := rep_int r1
    obtain rfl := rep_int r2
    obtain ⟨z, hz, q⟩ := ofO_px q
    obtain ⟨k, ho, hk⟩ := Option.map_eq_some_iff.mp hz
    subst hk
    exact opI_ok ho (q.val (d := .int k) S (fun a => fa_le a) ⟨rfl, rfl⟩)
  · rename_i a b hx hy
    obtain ⟨l1, g1, r1⟩ := deref_ok S rx hx
    obtain ⟨l2, g2, r2⟩ := deref_ok S ry hy
    obtain rfl := rep_str r1
    obtain rfl := rep_str r2
    split at q
    · rename_i hz
      exact .inr (.inl ⟨a, b, rfl, rfl, hz, q.val (d := .str (a ++ b)) S (fun a => fa_le a) ⟨rfl, rfl⟩⟩)
    · exact q.elim
  · rename_i hx hy
    obtain ⟨ds, k, e1, h1, q⟩ := kids_bind q
    obtain ⟨es, l, e2, h2, q⟩ := kids_bind q
    have hy1 := kids_same h1 hy
    obtain ⟨P', F', f', a, xs, b, ys, S', rfl, rfl, qq, fr', st, d1, d2, n1, n2⟩ := kids2_ok S rx ry fr h1 h2
    replace q := q.from st
    split at q
    · rename_i hz
      have ra : Rd H a (.lst xs) := by
        rcases d1 with ⟨_, r⟩ | ⟨z, _⟩
        · exact r
        · rw [hx] at z; cases z
      have rb : Rd H b (.lst ys) := by
        rcases d2 with ⟨_, r⟩ | ⟨z, _⟩
        · exact r
        · rw [hy1] at z; cases z
      refine .inr (.inr (.inl ⟨a, b, xs, ys, rfl, rfl, ra, rb, by rw [n1, n2]; exact hz, fun p hp => ?_⟩))
      exact PX.newL S' qq (lmin_ne _ _) fr' (fun c => Nat.le_refl _) q hp
    · exact q.elim
  · rename_i hx hy
    obtain ⟨ds, k, e1, h1, q⟩ := kids_bind q
    obtain ⟨es, l, e2, h2, q⟩ := kids_bind q
    have hy1 := kids_same h1 hy
    obtain ⟨P', F', f', a, xs, b, ys, S', rfl, rfl, qq, fr', st, d1, d2, n1, n2⟩ := kids2_ok S rx ry fr h1 h2
    replace q := q.from st
    split at q
    · rename_i hz
      have ra : Rd H a (.tup xs) := by
        rcases d1 with ⟨z, _⟩ | ⟨_, r⟩
        · rw [hx] at z; cases z
        · exact r
      have rb : Rd H b (.tup ys) := by
        rcases d2 with ⟨z, _⟩ | ⟨_, r⟩
        · rw [hy1] at z; cases z
        · exact r
      have lp : (lmin k l).pred = lmin k l := by cases k <;> cases l <;> rfl
      refine .inr (.inr (.inr ⟨a, b, xs, ys, rfl, rfl, .inl ra, .inl rb, by rw [n1, n2]; exact hz, fun z => ?_, fun _ z => ?_, fun _ _ p hp => ?_⟩))
      · subst z
        refine q _ H P' F' f' S' ⟨b, ys, rfl, rb, ?_⟩ fr' (.refl _ _ _)
        rw [lp]; simpa using qq
      · subst z
        refine q _ H P' F' f' S' ⟨a, xs, rfl, ra, ?_⟩ fr' (.refl _ _ _)
        rw [lp]; simpa using qq
      · exact PX.newT S' qq (lmin_ne _ _) fr' (fun c => Nat.le_refl _) q hp
    · exact q.elim
  · rename_i ds k hx hy
    obtain ⟨l2, g2, r2⟩ := deref_ok S ry hy
    obtain rfl := rep_int r2
    split at q
    · rename_i hc
      obtain ⟨ho, hi, h1, h2, h3⟩ := hc
      cases x with
      | ali i => simp [ownT] at ho
      | tmp d l =>
        cases hx
        obtain ⟨a, xs, g', rfl, qk, z⟩ := rx
        rcases z with ⟨e1, _⟩ | ⟨e1, e3, e4⟩
        · subst e1; simp [ownT] at ho
        · obtain ⟨z1, z2⟩ := RepL.imm (P' := P) .full hi qk
          refine .inr (.inl ⟨a, k, xs, rfl, rfl, e3, h1, h2, by rw [qk.len]; exact h3, fun p hp => ?_⟩)
          exact PX.newL S (z2.rep k.toNat) (by simp) Frm.z (fun c => by simp) q hp
    · exact q.elim
  · exact q.elim
end
end VI
namespace VI
open PySem PySem.Spec PyProof.Rows L2
/-! ### comparisons -/
def cmC : Cm → CmpOp
  | .eq => .Eq | .ne => .NotEq | .lt => .Lt | .le => .LtE | .gt => .Gt | .ge => .GtE | .isin => .In | .notin => .NotIn
def rInDict (neg : Bool) : R2 := fun x y H Q => ∃ a o, y = .ref a ∧ DGet H a x o ∧ Q (.bl (if neg then !o.isSome else o.isSome)) H
/-- in a tuple -/
def rInT (neg : Bool) (K : PySem.W.Frag) : R2 := fun x y H Q => ∃ d ds, Dp K H x d ∧ Dp K H y (.tuple ds) ∧ SeqAt.shaped d = true ∧ SeqAt.shaped (.tuple ds) = true ∧ Q (.bl (if neg then !ds.any fun z => PyData.eqv z d else ds.any fun z => PyData.eqv z d)) H
theorem op_inT {Y : Cx} (hu : Y.A.units + 65 < cLine) : OpR Y (compareOp .In) (rInT false Y.K) := by
  intro pins s σ H x y v u Q I rx ry h
  obtain ⟨d, ds, hd, he, sd, se, q⟩ := h
  obtain ⟨as, r1⟩ := Dp.reads I d x v hd rx
  obtain ⟨bs, r2⟩ := Dp.reads I (.tuple ds) y u he ry
  have e1 := SeqAt.canLay_of_shaped se
  exact SeqAt.in_tuple_reads r2 r1 (by simpa [PyData.canLay0] using e1) (SeqAt.canLay_of_shaped sd) (room_in_shaped sd hu) ⟨.bl _, H, I, rfl, q⟩
theorem op_notInT {Y : Cx} (hu : Y.A.units + 65 < cLine) : OpR Y (compareOp .NotIn) (rInT true Y.K) := by
  intro pins s σ H x y v u Q I rx ry h
  obtain ⟨d, ds, hd, he, sd, se, q⟩ := h
  obtain ⟨as, r1⟩ := Dp.reads I d x v hd rx
  obtain ⟨bs, r2⟩ := Dp.reads I (.tuple ds) y u he ry
  have e1 := SeqAt.canLay_of_shaped se
  exact SeqAt.notIn_tuple_reads r2 r1 (by simpa [PyData.canLay0] using e1) (SeqAt.canLay_of_shaped sd) (room_in_shaped sd hu) ⟨.bl _, H, I, rfl, q⟩
def rCm (K : PySem.W.Frag) : Cm → R2
  | .eq => rEqD K
  | .ne => rNeD K
  | .lt => rI0 fun i j => .bl (decide (i < j))
  | .le => rI0 fun i j => .bl (decide (i ≤ j))
  | .gt => rI0 fun i j => .bl (decide (j < i))
  | .ge => rI0 fun i j => .bl (decide (j ≤ i))
  | .isin => fun x y H Q => rInDict false x y H Q ∨ rInD K x y H Q ∨ rInT false K x y H Q
  | .notin => fun x y H Q => rInDict true x y H Q ∨ rNotInD K x y H Q ∨ rInT true K x y H Q
section
variable {Y : Cx}
theorem op_inDict (hu : Y.A.units + 1 < cLine) : OpR Y (compareOp .In) (rInDict false) := by
  intro pins s σ H x y v u Q I rx ry h
  obtain ⟨a, o, rfl, g, q⟩ := h
  cases ry
  exact d_in hu I g rx fun s3 I3 => ⟨.bl o.isSome, H, I3, rfl, q⟩
theorem op_notInDict (hu : Y.A.units + 1 < cLine) : OpR Y (compareOp .NotIn) (rInDict true) := by
  intro pins s σ H x y v u Q I rx ry h
  obtain ⟨a, o, rfl, g, q⟩ := h
  cases ry
  exact d_notIn hu I g rx fun s3 I3 => ⟨.bl (!o.isSome), H, I3, rfl, q⟩
theorem cm_all (hu : Y.A.units + 65 < cLine) (o : Cm) : OpR Y (compareOp (cmC o)) (rCm Y.K o) := by
  cases o
  · exact op_eqD (by omega)
  · exact op_neD (by omega)
  · exact op_lt
  · exact op_le
  · exact op_gt
  · exact op_ge
  · exact (op_inDict (by omega)).or ((op_inD hu).or (op_inT hu))
  · exact (op_notInDict (by omega)).or ((op_notInD hu).or (op_notInT hu))
end
section
variable {W : WC} {σ : L2.St} {H : Hp} {Q : VK} {K : PySem.W.Frag} {P : Addr → Prop}
theorem RepK.val {k : Key} : ∀ {kvs : List (Key × D)} {l : Lv} {xs : List (Key × V)} {f : FP}, RepK H P kvs l xs f →
    (dlookK k kvs = none ∧ valV xs k = none) ∨ ∃ d v g, dlookK k kvs = some d ∧ valV xs k = some v ∧ RepD H P d l v g ∧ ∀ a, g a ≤ f a
  | [], _, _, _, h => by rw [h.1]; exact .inl ⟨rfl, rfl⟩
  | (j, d) :: r, l, _, _, h => by
    obtain ⟨v, r', f1, f2, e, h1, h2, e2⟩ := h
    subst e e2
    by_cases q : j = k
    · exact .inr ⟨d, v, f1, by simp [dlookK, q], valV_pos (by exact q), h1, fun a => by simp⟩
    · rcases RepK.val (k := k) h2 with ⟨z1, z2⟩ | ⟨d', v', g, z1, z2, z3, z4⟩
      · exact .inl ⟨by simp [dlookK, q, z1], by rw [valV_neg (by exact q)]; exact z2⟩
      · exact .inr ⟨d', v', g, by simp [dlookK, q, z1], by rw [valV_neg (by exact q)]; exact z2, z3, fun a => Nat.le_trans (z4 a) (by simp)⟩
theorem rep_dK {kvs : List (Key × D)} {l : Lv} {v : V} {f : FP} (h : RepD H P (.dK kvs) l v f) : ∃ a xs g, v = .ref a ∧ H a = some (.dK xs) ∧ RepK H P kvs l.pred xs g := by
  obtain ⟨a, xs, g, e, q, z⟩ := h
  rcases z with ⟨e1, e2, e3, e4⟩ | ⟨e1, e3, e4⟩
  · exact ⟨a, xs, g, e, e3, q⟩
  · exact ⟨a, xs, g, e, e3, q⟩
theorem rep_key1 {d : D} {k : Key} {l : Lv} {v : V} {f : FP} (e : key1 d = some k) (h : RepD H P d l v f) : v = kV k := by
  cases d with
  | int i => cases e; exact h.1
  | str i => cases e; exact h.1
  | _ => cases e
theorem dget_of {kvs : List (Key × D)} {xs : List (Key × V)} {l : Lv} {f : FP} {a : Addr} {k : Key} (r : H a = some (.dK xs)) (q : RepK H P kvs l xs f) : ∃ o, DGet H a (kV k) o ∧ o.isSome = (dlookK k kvs).isSome := by
  refine ⟨valV xs k, .inl ⟨xs, k, .inl r, rfl, rfl⟩, ?_⟩
  rcases RepK.val (k := k) q with ⟨z1, z2⟩ | ⟨d, v, g, z1, z2, _⟩
  · rw [z1, z2]; rfl
  · rw [z1, z2]; rfl
theorem cmpD_ok {o : Cm} {a b : D} {c : Bool} {l1 l2 : Lv} {v w : V} {f g : FP} (h : cmpD o a b = some c) (ra : RepD H P a l1 v f) (rb : RepD H P b l2 w g) (q : Q (.bl c) H) : rCm K o v w H Q := by
  have inD : ∀ (d : D) (ds : List D) (l1 l2 : Lv) (v w : V) (f g : FP), RepD H P d l1 v f → RepD H P (.lst ds) l2 w g → (shapedD d && shapedD (.lst ds)) = true →
      Dp K H v (py d) ∧ Dp K H w (.list (pyL ds)) ∧ SeqAt.shaped (py d) = true ∧ SeqAt.shaped (.list (pyL ds)) = true := fun d ds l1 l2 v w f g r1 r2 h => by
    obtain ⟨h1, h2⟩ := Bool.and_eq_true_iff.mp h
    exact ⟨r1.dp (SeqAt.canLay_of_shaped h1), r2.dp (SeqAt.canLay_of_shaped h2), h1, h2⟩
  have anyD : ∀ (ds : List D) (d : D), ((pyL ds).any fun z => PyData.eqv z (py d)) = ds.any fun z => PyData.eqv (py z) (py d) := fun ds d => by
    induction ds with
    | nil => rfl
    | cons z r ih => simp only [pyL, List.any_cons, ih]
  unfold cmpD at h
  split at h
  · rename_i k kvs
    cases h
    obtain rfl := rep_int ra
    obtain ⟨p, xs, g', rfl, r, z⟩ := rep_dK rb
    obtain ⟨o, z1, z2⟩ := dget_of (k := .inl k) r z
    exact .inl ⟨p, o, rfl, z1, by simp only [Bool.false_eq_true, if_false]; rw [z2]; exact q⟩
  · rename_i k kvs
    cases h
    obtain rfl := rep_int ra
    obtain ⟨p, xs, g', rfl, r, z⟩ := rep_dK rb
    obtain ⟨o, z1, z2⟩ := dget_of (k := .inl k) r z
    exact .inl ⟨p, o, rfl, z1, by simp only [if_true]; rw [z2]; exact q⟩
  · rename_i k kvs
    cases h
    obtain rfl := rep_str ra
    obtain ⟨p, xs, g', rfl, r, z⟩ := rep_dK rb
    obtain ⟨o, z1, z2⟩ := dget_of (k := .inr k) r z
    exact .inl ⟨p, o, rfl, z1, by simp only [Bool.false_eq_true, if_false]; rw [z2]; exact q⟩
  · rename_i k kvs
    cases h
    obtain rfl := rep_str ra
    obtain ⟨p, xs, g', rfl, r, z⟩ := rep_dK rb
    obtain ⟨o, z1, z2⟩ := dget_of (k := .inr k) r z
    exact .inl ⟨p, o, rfl, z1, by simp only [if_true]; rw [z2]; exact q⟩
  · rename_i d ds _ _
    split at h
    · rename_i hs
      cases h
      obtain ⟨h1, h2, h3, h4⟩ := inD _ _ _ _ _ _ _ _ ra rb hs
      exact .inr (.inl ⟨_, _, h1, h2, h3, h4, by rw [anyD]; exact q⟩)
    · cases h
  · rename_i d ds _ _
    split at h
    · rename_i hs
      cases h
      obtain ⟨h1, h2, h3, h4⟩ := inD _ _ _ _ _ _ _ _ ra rb hs
      exact .inr (.inl ⟨_, _, h1, h2, h3, h4, by rw [anyD]; exact q⟩)
    · cases h
  · rename_i d ds _ _
    split at h
    · rename_i hs
      cases h
      obtain ⟨h1, h2⟩ := Bool.and_eq_true_iff.mp hs
      exact .inr (.inr ⟨_, _, ra.dp (SeqAt.canLay_of_shaped h1), rb.dp (SeqAt.canLay_of_shaped h2), h1, h2, by rw [anyD]; exact q⟩)
    · cases h
  · rename_i d ds _ _
    split at h
    · rename_i hs
      cases h
      obtain ⟨h1, h2⟩ := Bool.and_eq_true_iff.mp hs
      exact .inr (.inr ⟨_, _, ra.dp (SeqAt.canLay_of_shaped h1), rb.dp (SeqAt.canLay_of_shaped h2), h1, h2, by rw [anyD]; exact q⟩)
    · cases h
  · cases h; exact ⟨_, _, rep_int ra, rep_int rb, q⟩
  · cases h; exact ⟨_, _, rep_int ra, rep_int rb, q⟩
  · cases h; exact ⟨_, _, rep_int ra, rep_int rb, q⟩
  · cases h; exact ⟨_, _, rep_int ra, rep_int rb, q⟩
  · split at h
    · rename_i hs
      cases h
      obtain ⟨h1, h2⟩ := Bool.and_eq_true_iff.mp hs
      exact ⟨_, _, ra.dp (SeqAt.canLay_of_shaped h1), rb.dp (SeqAt.canLay_of_shaped h2), h1, h2, q⟩
    · cases h
  · split at h
    · rename_i hs
      cases h
      obtain ⟨h1, h2⟩ := Bool.and_eq_true_iff.mp hs
      exact ⟨_, _, ra.dp (SeqAt.canLay_of_shaped h1), rb.dp (SeqAt.canLay_of_shaped h2), h1, h2, q⟩
    · cases h
  · cases h
/-- from a comparison by values: the answer, all as it was -/
theorem cmpX_ok {o : Cm} {x y : X} {e : Env} {F : List FP} {f g : FP} {v w : V} {T : FP} {G : X → Env → R X} (S : St0 σ e H P F) (rx : RX σ H P x v f) (ry : RX σ H P y w g) (h : PX W σ H P T ((cmpX o x y e).bind G) Q) :
    ∃ c, (∀ Q' : VK, Q' (.bl c) H → rCm K o v w H Q') ∧ PX W σ H P T (G (im (.bl c)) e) Q := by
  unfold cmpX at h
  split at h
  · rename_i a b ha hb
    obtain ⟨l1, g1, r1⟩ := deref_ok S rx ha
    obtain ⟨l2, g2, r2⟩ := deref_ok S ry hb
    cases q : cmpD o a b with
    | none => rw [q] at h; exact h.elim
    | some c =>
      rw [q] at h
      exact ⟨c, fun Q' z => cmpD_ok q r1 r2 z, h⟩
  · exact h.elim
theorem bind_self (r : R X) : r.bind (fun x e => .ok x e) = r := by cases r <;> rfl
theorem cmpX_end {o : Cm} {v w : V} (h : Ns W σ [v, w] H (g2 (cmpX o)) Q) : rCm K o v w H Q := by
  obtain ⟨x, y, e, P, F, f, g, S, rx, ry, fr, q⟩ := h.two
  replace q : PX W σ H P (fa (tot F) (fa f g)) (cmpX o x y e) Q := q
  rw [← bind_self (cmpX o x y e)] at q
  obtain ⟨c, h1, h2⟩ := cmpX_ok (K := K) S rx ry q
  exact h1 Q (h2.val (d := .bl c) S (fun a => fa_le a) ⟨rfl, rfl⟩)
end
end VI
namespace VI
open PySem PySem.Spec PyProof.Rows L2
/-! ### sorted(..): what the program does -/
def depK : SK → Nat
  | .int => 0 | .str => 0
  | .lst k => depK k + 1
  | .tup k => depK k + 1
  | .two a b => max (depK a) (depK b) + 1
mutual
theorem depth_le : ∀ {k : SK} {d : D}, hasK k d = true → (py d).depth ≤ depK k
  | .int, d, h => by
    obtain ⟨i, rfl⟩ := hasK_int h
    simp [py, PyData.depth]
  | .str, d, h => by
    obtain ⟨i, rfl⟩ := hasK_str h
    simp [py, PyData.depth]
  | .lst k, d, h => by
    obtain ⟨ds, rfl, q⟩ := hasK_lst h
    have := depths_le q
    simp only [py, PyData.depth, depK]; omega
  | .tup k, d, h => by
    obtain ⟨ds, rfl, q⟩ := hasK_tup h
    have := depths_le q
    simp only [py, PyData.depth, depK]; omega
  | .two k m, d, h => by
    obtain ⟨x, y, rfl, q1, q2⟩ := hasK_two h
    have h1 := depth_le q1
    have h2 := depth_le q2
    simp only [py, pyL, PyData.depth, PyData.depthAll, depK]; omega
theorem depths_le : ∀ {k : SK} {ds : List D}, hasKs k ds = true → PyData.depthAll (pyL ds) ≤ depK k
  | k, [], _ => by simp [pyL, PyData.depthAll]
  | k, d :: ds, h => by
    simp only [hasKs, Bool.and_eq_true] at h
    have h1 := depth_le h.1
    have h2 := depths_le h.2
    simp only [pyL, PyData.depthAll]; omega
end
theorem hasKs_mem {k : SK} : ∀ {ds : List D}, hasKs k ds = true → ∀ d ∈ ds, hasK k d = true
  | [], _, _, h => by cases h
  | x :: ds, h, d, hd => by
    simp only [hasKs, Bool.and_eq_true] at h
    rcases List.mem_cons.mp hd with e | e
    · rw [e]; exact h.1
    · exact hasKs_mem h.2 d e
theorem kindOf_ok {ds : List D} {k : SK} (h : kindOf ds = some k) : (∀ d ∈ ds, hasK k d = true) ∧ (∀ d ∈ ds, notNil d = true) ∧ depK k ≤ 4 := by
  unfold kindOf at h
  split at h
  · rename_i hn
    have h1 : hasKs k ds = true := by simpa using List.find?_some h
    refine ⟨hasKs_mem h1, fun d hd => List.all_eq_true.mp hn d hd, ?_⟩
    have hm := List.mem_of_find?_eq_some h
    simp only [kinds, List.mem_cons, List.not_mem_nil, or_false] at hm
    rcases hm with e | e | e | e | e | e | e | e | e | e | e | e | e | e <;> (subst e; decide)
  · cases h
/-- items of one kind, as the sort wants them -/
structure Of1 (k : SK) (ds : List D) : Prop where
  has : ∀ d ∈ ds, hasK k d = true
  nn : ∀ d ∈ ds, notNil d = true
  dep : depK k ≤ 4
section
variable {α : Type} {k : SK} {bs : List α} {g : α → D}
theorem Of1.alike (h : Of1 k (bs.map g)) : W.AllAlike (bs.map fun b => py (g b)) := by
  intro d hd d' hd'
  obtain ⟨b, hb, rfl⟩ := List.mem_map.mp hd
  obtain ⟨c, hc, rfl⟩ := List.mem_map.mp hd'
  exact alikeK (h.has _ (List.mem_map.mpr ⟨b, hb, rfl⟩)) (h.has _ (List.mem_map.mpr ⟨c, hc, rfl⟩))
theorem Of1.sortable (h : Of1 k (bs.map g)) : W.Sortable (bs.map fun b => py (g b)) := by
  have tupl : ∀ d : D, notNil d = true → ∀ ds, d = .tup ds → ∃ x r, py d = .tuple (x :: r) := fun d hn ds e => by
    subst e
    cases ds with
    | nil => cases hn
    | cons x r => exact ⟨py x, pyL r, rfl⟩
  have other : (∀ d, hasK k d = true → py d ≠ .none ∧ ∀ xs, py d ≠ .tuple xs) → W.Sortable (bs.map fun b => py (g b)) := fun q => .inr fun d hd => by
    obtain ⟨b, hb, rfl⟩ := List.mem_map.mp hd
    exact q _ (h.has _ (List.mem_map.mpr ⟨b, hb, rfl⟩))
  cases k with
  | int => exact other fun d q => by obtain ⟨i, rfl⟩ := hasK_int q; exact ⟨by simp [py], by simp [py]⟩
  | str => exact other fun d q => by obtain ⟨i, rfl⟩ := hasK_str q; exact ⟨by simp [py], by simp [py]⟩
  | lst k => exact other fun d q => by obtain ⟨i, rfl, _⟩ := hasK_lst q; exact ⟨by simp [py], by simp [py]⟩
  | tup k =>
    refine .inl fun d hd => ?_
    obtain ⟨b, hb, rfl⟩ := List.mem_map.mp hd
    have hm : g b ∈ bs.map g := List.mem_map.mpr ⟨b, hb, rfl⟩
    obtain ⟨ds, e, _⟩ := hasK_tup (h.has _ hm)
    exact tupl _ (h.nn _ hm) ds e
  | two k m =>
    refine .inl fun d hd => ?_
    obtain ⟨b, hb, rfl⟩ := List.mem_map.mp hd
    have hm : g b ∈ bs.map g := List.mem_map.mpr ⟨b, hb, rfl⟩
    obtain ⟨x, y, e, _⟩ := hasK_two (h.has _ hm)
    exact tupl _ (h.nn _ hm) _ e
theorem Of1.dep' (h : Of1 k (bs.map g)) : ∀ b ∈ bs, (py (g b)).depth ≤ 4 := fun b hb => Nat.le_trans (depth_le (h.has _ (List.mem_map.mpr ⟨b, hb, rfl⟩))) h.dep
theorem Of1.merge (h : Of1 k (bs.map g)) (rev : Bool) : bs.mergeSort (W.dataLe rev fun b => py (g b)) = insort (fun a b => leK k rev (g a) (g b)) bs := by
  have T := W.sortLe_total (listOrd itemOrd) rev fun b : α => W.keyToks (py (g b))
  show bs.mergeSort (W.sortLe (listOrd itemOrd) rev fun b => W.keyToks (py (g b))) = _
  rw [← insort_merge (fun a b c => T.trans a b c) (fun a b => by rw [Bool.or_eq_true]; exact T.total a b) bs]
  show insort (W.dataLe rev fun b => py (g b)) bs = _
  refine insort_congr fun a ha b hb => ?_
  have h1 := h.has _ (List.mem_map.mpr ⟨a, ha, rfl⟩)
  have h2 := h.has _ (List.mem_map.mpr ⟨b, hb, rfl⟩)
  show cond rev (!W.dataLt (py (g a)) (py (g b))) (!W.dataLt (py (g b)) (py (g a))) = leK k rev (g a) (g b)
  rw [dltK h1 h2, dltK h2 h1]
  cases rev <;> rfl
end
/-! over the model -/
section
variable {prog : Program} {w : World} {A : Around} {E : Value → Shared → Prop} {s : Shared}
/-- the items of a tuple, gathered -/
theorem collect_tup {t : Addr} {vs : List Value} {Q : List Value → Shared → Prop} (ht : s.heap.IsTuple t vs.toArray) (hz : vs.length ≤ sizeLine)
    (h : Q vs { s with heap := (s.heap.push (seqObj "list" #[] 0)).update s.heap.objs.size (Obj.mapSeq (· ++ vs.toArray)) }) :
    wpAny (model prog w) A (collect (.ref t)) Q E s := by
  obtain ⟨o, ho, hc, n, hd⟩ := id ht
  unfold collect
  refine wpAny_bind (wpAny_runValue (codeAny_builtin entry_proto_collect' ?_))
  show wpAny _ _ (newList [] >>= fun l => again (.builtin "list.__iadd__" ⟨[l, .ref t], []⟩)) _ _ s
  refine wpAny_bind (wpAny_newList (wpAny_pure ⟨Code.quiet_builtin _ (by decide +kernel), codeAny_builtin entry_list_iadd' ?_⟩))
  show wpAny _ _ (Builtin.List.listExtendWith (.ref s.heap.objs.size) (.ref t) (.ref s.heap.objs.size)) _ _ { s with heap := s.heap.push (seqObj "list" #[] 0) }
  unfold Builtin.List.listExtendWith
  have o1 : (s.heap.push (seqObj "list" #[] 0)).get? t = some o := Heap.get?_push_of_some _ ho
  have o2 : (s.heap.push (seqObj "list" #[] 0)).get? s.heap.objs.size = some (seqObj "list" #[] 0) := Heap.get?_push_size _ rfl
  refine wpAny_bind (wpAny_typeOf (T := "tuple") ⟨o, o1, hc⟩ ?_)
  have tt : (Value.type "tuple" == Value.type "tuple") = true := rfl
  rw [if_pos (by rw [tt]; simp)]
  refine wpAny_bind (listItems_at o1 hd ?_)
  refine wpAny_bind (listItems_at (n := 0) o2 rfl ?_)
  rw [if_neg (by simp)]
  refine wpAny_bind (listUpdate_at (n := 0) o2 rfl ?_ (Nat.zero_le _) ?_)
  · refine wpAny_pure ?_
    show wpAny (model prog w) A (load s.heap.objs.size >>= fun o => match o.data with
      | .seq xs _ => pure xs.toList
      | _ => unsupported "internal:collect") Q E _
    refine wpAny_bind (wpAny_load (get?_update_seq o2 _) ?_)
    have e : ((#[] : Array Value) ++ vs.toArray).toList = vs := by simp
    show wpAny _ _ (pure ((#[] : Array Value) ++ vs.toArray).toList) Q E _
    rw [e]; exact wpAny_pure h
  · show (#[] ++ vs.toArray).size ≤ sizeLine + 1
    simp only [Array.size_append, List.size_toArray, List.length_nil]; omega
/-- sorted(x): what collect gathers of x, put in order -/
theorem sorted_gather {β : Type} {x : Value} {R : Value → β → Prop} {g : β → D} {k : SK} {Pv : List Value → List β → Prop} {Q : Value → Shared → Prop}
    (hcol : ∀ Q' : List Value → Shared → Prop, (∀ s1 vs bs, Pv vs bs → (∀ b o, s.heap.get? b = some o → s1.heap.get? b = some o) → s.heap.objs.size ≤ s1.heap.objs.size → s1.gens = s.gens → s1.os = s.os → Q' vs s1) → wpAny (model prog w) A.in1 (collect x) Q' E s)
    (hv : ∀ vs bs, Pv vs bs → W.EachIs R vs bs ∧ Of1 k (bs.map g) ∧ bs.length ≤ sizeLine ∧ ∀ h' : Heap, (∀ b o, s.heap.get? b = some o → h'.get? b = some o) → W.EachIs (fun v b => ∃ as, Reads h' v (py (g b)) as ∧ ∀ a ∈ as, a < s.heap.objs.size) vs bs)
    (hu : A.units + 16 < cLine)
    (hQ : ∀ s' p (out : List Value) (c : Nat) vs bs, Pv vs bs → (∀ b o, s.heap.get? b = some o → s'.heap.get? b = some o) → s'.gens = s.gens → s'.os = s.os → s.heap.objs.size ≤ p →
      s'.heap.get? p = some (seqObj "list" out.toArray c) → W.EachIs R out (insort (fun a b => leK k false (g a) (g b)) bs) → Q (.ref p) s') :
    wpAny (model prog w) A (call (.builtin "sorted") [x]) Q E s := by
  refine Calls.call_function_entry kind_sorted plain_sorted entry_sorted (args_sorted1 _) ?_
  unfold Builtin.«sorted»
  refine wpAny_bind (m := checkCount "sorted" 1 1 _) (wpAny_pure ?_)
  refine wpAny_bind (hcol _ fun s1 vs bs hp k1 hz g1 o1 => ?_)
  obtain ⟨e, ho, hL, hr⟩ := hv vs bs hp
  refine wpAny_bind (wpAny_newList ?_ (by rw [e.length]; exact hL))
  have hl : (s1.heap.push (seqObj "list" vs.toArray 0)).get? s1.heap.objs.size = some (seqObj "list" vs.toArray 0) := Heap.get?_push_size _ rfl
  have er := hr (s1.heap.push (seqObj "list" vs.toArray 0)) fun b u e => Heap.get?_push_of_some _ (k1 b u e)
  have er2 : W.EachIs (fun v b => ∃ as, Reads (s1.heap.push (seqObj "list" vs.toArray 0)) v (py (g b)) as ∧ s1.heap.objs.size ∉ as) vs bs := er.mono fun _ _ ⟨as, r, ha⟩ => ⟨as, r, fun hm => absurd (ha _ hm) (Nat.not_lt.mpr hz)⟩
  refine wpAny_bind (wpAny_holding (W.list_sort_data (s := { s1 with heap := s1.heap.push (seqObj "list" vs.toArray 0) }) (enc := fun b => py (g b)) hl e er2 ho.alike ho.sortable hL (fun b hb => ?_) fun out h1 h2 => ?_))
  · have := ho.dep' b hb
    show A.units + 1 + 1 + _ < _
    omega
  · obtain ⟨c, hc⟩ := sortedHeap_at (vs := vs) (out := out.toArray) hl
    refine wpAny_pure ⟨_, rfl, hQ _ s1.heap.objs.size out c vs bs hp (fun b u e => ?_) g1 o1 hz hc ?_⟩
    · have q := k1 b u e
      have hlt := Heap.lt_size q
      show (sortedHeap (s1.heap.push (seqObj "list" vs.toArray 0)) s1.heap.objs.size vs out.toArray).get? b = some u
      rw [sortedHeap_old (Nat.ne_of_lt hlt) (by rw [size_push']; exact Nat.lt_succ_of_lt hlt)]
      exact Heap.get?_push_of_some _ q
    · rw [← ho.merge false]; exact h2
end
end VI
namespace VI
open PySem PySem.Spec PyProof.Rows L2
/-! ### sorted(..) as a rule -/
mutual
theorem reads_in {h : Heap} : ∀ (d : PyData) (v : Value) (as : List Addr), W.alike d d = true → Reads h v d as → ∀ a ∈ as, a < h.objs.size
  | .none, _, _, _, r, a, ha => by cases r; cases ha
  | .bool _, _, _, _, r, a, ha => by cases r; cases ha
  | .int _, _, _, _, r, a, ha => by cases r; cases ha
  | .str _, _, _, _, r, a, ha => by cases r; cases ha
  | .list xs, _, _, hal, r, a, ha => by
    cases r with
    | list h1 h2 h3 h4 =>
      rcases List.mem_cons.mp ha with e | ha
      · rw [e]; exact Heap.lt_size h1
      · exact readsAll_in xs _ _ (by simpa [W.alike] using hal) h4 a ha
  | .tuple xs, _, _, hal, r, a, ha => by
    cases r with
    | tuple h1 h2 h3 h4 => exact readsAll_in xs _ _ (by simpa [W.alike] using hal) h4 a ha
  | .dict _, _, _, hal, _, _, _ => absurd hal (by simp [W.alike])
theorem readsAll_in {h : Heap} : ∀ (ds : List PyData) (vs : List Value) (as : List Addr), W.alikeAll ds ds = true → ReadsAll h vs ds as → ∀ a ∈ as, a < h.objs.size
  | [], _, _, _, r, a, ha => by cases r; cases ha
  | d :: ds, _, _, hal, r, a, ha => by
    cases r with
    | cons h1 h2 =>
      rcases List.mem_append.mp ha with e | e
      · exact reads_in d _ _ (W.alike_all_cons hal).1 h1 a e
      · exact readsAll_in ds _ _ (W.alike_all_cons hal).2 h2 a e
end
theorem each_zip {vs : List V} : ∀ {its : List Value} {ds : List D}, Vals vs its → vs.length = ds.length → W.EachIs (fun u (b : V × D) => RelV b.1 u) its (vs.zip ds) := by
  induction vs with
  | nil => intro its ds r _; cases r; exact .nil
  | cons v vs ih =>
    intro its ds r hl
    cases r with
    | cons r1 r2 =>
      cases ds with
      | nil => cases hl
      | cons d ds => exact .cons r1 (ih r2 (by simpa using hl))
theorem vals_of_each {β : Type} {g : β → V} : ∀ {us : List Value} {bs : List β}, W.EachIs (fun u b => RelV (g b) u) us bs → Vals (bs.map g) us
  | _, _, .nil => .nil
  | _, _, .cons h t => .cons h (vals_of_each t)
theorem dpAll_len {K : PySem.W.Frag} {H : Hp} : ∀ {vs : List V} {ds : List D}, DpAll K H vs (pyL ds) → vs.length = ds.length
  | _, [], h => by
    have h' : DpAll K H _ [] := h
    cases h'; rfl
  | _, d :: ds, h => by
    have h' : DpAll K H _ (py d :: pyL ds) := h
    cases h' with
    | cons h1 h2 => rw [List.length_cons, List.length_cons, dpAll_len h2]
theorem zip_snd {α β : Type} : ∀ {vs : List α} {ds : List β}, vs.length = ds.length → (vs.zip ds).map (·.2) = ds
  | [], [], _ => rfl
  | _ :: vs, d :: ds, h => by rw [List.zip_cons_cons, List.map_cons, zip_snd (by simpa using h)]
theorem zip_fst {α β : Type} : ∀ {vs : List α} {ds : List β}, vs.length = ds.length → (vs.zip ds).map (·.1) = vs
  | [], [], _ => rfl
  | _ :: vs, d :: ds, h => by rw [List.zip_cons_cons, List.map_cons, zip_fst (by simpa using h)]
/-- the values in order by their data -/
def ordV (rev : Bool) (k : SK) (vs : List V) (ds : List D) : List V := (insort (fun a b : V × D => leK k rev a.2 b.2) (vs.zip ds)).map (·.1)
def rSortD (K : PySem.W.Frag) (rev : Bool) : List V → Hp → VK → Prop := fun xs H Q => ∃ l vs ds k, xs = [.ref l] ∧ (SqL K H l vs ∨ (rev = false ∧ SqT K H l vs)) ∧ DpAll K H vs (pyL ds) ∧ Of1 k ds ∧
  ∀ p, H p = none → Q (.ref p) (upd H p (.lst (ordV rev k vs ds)))
section
variable {Y : Cx} {pins : List (Addr × Obj)} {σ : L2.St} {H : Hp} {s : Shared}
theorem each_reads (I : Inv Y pins σ H s) : ∀ {vs : List V} {its : List Value} {ds : List D} {k : SK}, DpAll Y.K H vs (pyL ds) → Vals vs its → (∀ d ∈ ds, hasK k d = true) → W.EachIs (fun u (b : V × D) => ∃ as, Reads s.heap u (py b.2) as ∧ ∀ a ∈ as, a < s.heap.objs.size) its (vs.zip ds)
  | _, _, [], _, h, r, _ => by
    have h' : DpAll Y.K H _ [] := h
    cases h'
    cases r
    exact .nil
  | _, _, d :: ds, k, h, r, hk => by
    have h' : DpAll Y.K H _ (py d :: pyL ds) := h
    cases h' with
    | cons h1 h2 =>
      cases r with
      | cons r1 r2 =>
        obtain ⟨as, q⟩ := Dp.reads I _ _ _ h1 r1
        have hd := hk d List.mem_cons_self
        exact .cons ⟨as, q, reads_in _ _ _ (alikeK hd hd) q⟩ (each_reads I h2 r2 fun d' h' => hk d' (List.mem_cons_of_mem _ h'))
theorem ordV_len {rev : Bool} {k : SK} {vs : List V} {ds : List D} (h : vs.length = ds.length) : (ordV rev k vs ds).length = vs.length := by
  unfold ordV
  rw [List.length_map, (insort_perm _).length_eq, List.length_zip, ← h, Nat.min_self]
theorem shared_eq {s s' : Shared} (o : s'.os = s.os) : s' = { s with heap := s'.heap, gens := s'.gens, drawn := s'.drawn, toks := s'.toks } := by
  cases s'
  cases s
  cases o
  rfl
theorem call_sortD (hu : Y.A.units + 64 < cLine) : CallR Y (.builtin "sorted") (rSortD Y.K false) := by
  intro pins s σ H xs us Q I r h
  obtain ⟨l, vs, ds, k, rfl, hs, hd, ho, q⟩ := h
  obtain ⟨u, rfl, ru⟩ := vals1 r
  cases ru
  have hl := dpAll_len hd
  have go : ∀ its, Vals vs its → vs.length ≤ sizeLine → (∀ Q' : List Value → Shared → Prop, (∀ s1, (∀ b o, s.heap.get? b = some o → s1.heap.get? b = some o) → s.heap.objs.size ≤ s1.heap.objs.size → s1.gens = s.gens → s1.os = s.os → Q' its s1) → wpAny (model Y.prog Y.w) Y.A.in1 (collect (.ref l)) Q' Y.xe s) →
      wpAny (model Y.prog Y.w) Y.A (call (.builtin "sorted") [.ref l]) (EP Y pins σ Q) Y.xe s := fun its rv hz hcol => by
    refine sorted_gather (R := fun u (b : V × D) => RelV b.1 u) (g := fun b : V × D => b.2) (k := k) (Pv := fun ws bs => ws = its ∧ bs = vs.zip ds) (fun Q' hq => hcol Q' fun s1 k1 hz g1 o1 => hq s1 its (vs.zip ds) ⟨rfl, rfl⟩ k1 hz g1 o1) ?_ (by omega) ?_
    · rintro ws bs ⟨rfl, rfl⟩
      refine ⟨each_zip rv hl, by rw [zip_snd hl]; exact ho, ?_, fun h' hk => ?_⟩
      · rw [List.length_zip, ← hl, Nat.min_self]; exact hz
      · exact (each_reads I hd rv ho.has).mono fun u b ⟨as, h1, h2⟩ => ⟨as, PyProof.Rows.Reads.keeps hk h1, h2⟩
    · rintro s' p out c ws bs ⟨rfl, rfl⟩ k1 g1 o1 hp hg eo
      have hn : H p = none := I.hok.fresh hp
      have hv : Vals (ordV false k vs ds) out := vals_of_each eo
      have J : Inv Y pins σ (upd H p (.lst (ordV false k vs ds))) { s with heap := s'.heap, gens := s'.gens, drawn := s'.drawn, toks := s'.toks } :=
        I.call (ch := []) (Un.laid k1 hp hn) (I.hok.laid k1 hp ⟨by rw [ordV_len hl]; exact hz, out, c, hv, hg⟩) (by rw [g1]; exact I.bare) (fun _ z => nomatch z)
      rw [shared_eq o1]
      exact ⟨.ref p, _, J, rfl, q p hn⟩
  have keep : ∀ (xs : List Value) (b : Addr) (o : Obj), s.heap.get? b = some o → ((s.heap.push (seqObj "list" #[] 0)).update s.heap.objs.size (Obj.mapSeq (· ++ xs.toArray))).get? b = some o := fun xs b o e => by
    rw [Heap.get?_update_ne _ _ _ _ (Nat.ne_of_lt (Heap.lt_size e))]
    exact Heap.get?_push_of_some _ e
  have size : ∀ xs : List Value, s.heap.objs.size ≤ ((s.heap.push (seqObj "list" #[] 0)).update s.heap.objs.size (Obj.mapSeq (· ++ xs.toArray))).objs.size := fun xs => by
    rw [Heap.size_update, size_push']; exact Nat.le_succ _
  rcases hs with hs | ⟨_, hs⟩
  · obtain ⟨its, rv, pl, hz⟩ := I.list hs
    refine go its rv hz fun Q' hq => ?_
    exact collect_list pl.isList (hq _ (keep its) (size its) rfl rfl) (by rw [← rv.length]; exact hz)
  · obtain ⟨its, rv, pt, hz⟩ := I.tuple hs
    refine go its rv hz fun Q' hq => ?_
    exact collect_tup pt (by rw [← rv.length]; exact hz) (hq _ (keep its) (size its) rfl rfl)
/-- sorted(xs, reverse=True) -/
theorem call_sortR (hu : Y.A.units + 64 < cLine) : CallRK Y (.builtin "sorted") [Str.ofString "reverse"] (fun xs zs H Q => zs = [.bl true] ∧ rSortD Y.K true xs H Q) := by
  intro pins s σ H xs zs us ws Q I r rz h
  obtain ⟨rfl, l, vs, ds, k, rfl, hs, hd, ho, q⟩ := h
  obtain ⟨u, rfl, ru⟩ := vals1 r
  cases ru
  obtain ⟨w1, rfl, e1⟩ := vals1 rz
  obtain rfl : w1 = Value.bool true := e1
  have hl := dpAll_len hd
  have hs : SqL Y.K H l vs := by
    rcases hs with hs | ⟨z, _⟩
    · exact hs
    · cases z
  obtain ⟨its, rv, pl, hz⟩ := I.list hs
  have ho' : Of1 k ((vs.zip ds).map fun b => b.2) := by rw [zip_snd hl]; exact ho
  have hzl : (vs.zip ds).length ≤ sizeLine := by rw [List.length_zip, ← hl, Nat.min_self]; exact hz
  refine W.sorted_rev_data (R := fun u (b : V × D) => RelV b.1 u) (enc := fun b : V × D => py b.2) pl.isList (each_zip rv hl) ((each_reads I hd rv ho.has).mono fun u b ⟨as, h1, h2⟩ => ⟨as, h1⟩) ho'.alike ho'.sortable hzl (fun b hb => ?_) fun out _ eo => ?_
  · have := ho'.dep' b hb
    omega
  · obtain ⟨ep, he⟩ := PyProof.Rows.sortedAll_at s.heap its out.toArray
    rw [ho'.merge true] at eo
    have hv : Vals (ordV true k vs ds) out := vals_of_each eo
    exact ⟨.ref _, upd H (s.heap.objs.size + 1) (.lst (ordV true k vs ds)), I.laid (t' := s.toks) (fun _ _ => PyProof.Rows.sortedAll_old) (Nat.le_succ _) ⟨by rw [ordV_len hl]; exact hz, out, ep, hv, he⟩, rfl, q _ (I.hok.fresh (Nat.le_succ _))⟩
end
/-! the data in order stand for the values in order -/
theorem RepL.zip {H : Hp} {P : Addr → Prop} {l : Lv} {f : FP} : ∀ {zs ys : List (V × D)}, zs.Perm ys → RepL H P (ys.map (·.2)) l (ys.map (·.1)) f → RepL H P (zs.map (·.2)) l (zs.map (·.1)) f := by
  intro zs ys h
  induction h generalizing f with
  | nil => exact id
  | cons x _ ih =>
    rintro ⟨v, r, f1, f2, e, h1, h2, e2⟩
    cases e
    exact ⟨_, _, f1, f2, rfl, h1, ih h2, e2⟩
  | swap x y t =>
    rintro ⟨v, r, f1, f2, e, h1, ⟨v', r', f3, f4, e3, h3, h4, e4⟩, e2⟩
    cases e
    cases e3
    refine ⟨_, _, f3, fa f1 f4, rfl, h3, ⟨_, _, f1, f4, rfl, h1, h4, rfl⟩, ?_⟩
    rw [e2, e4, ← fa_assoc, ← fa_assoc, fa_comm f1 f3]
  | trans _ _ ih1 ih2 => exact fun h => ih1 (ih2 h)
theorem RepL.sort {H : Hp} {P : Addr → Prop} {l : Lv} {f : FP} {vs : List V} {ds : List D} (rev : Bool) (k : SK) (h : RepL H P ds l vs f) : RepL H P (insort (leK k rev) ds) l (ordV rev k vs ds) f := by
  have hl := h.len
  have e : (insort (fun a b : V × D => leK k rev a.2 b.2) (vs.zip ds)).map (·.2) = insort (leK k rev) ds := by
    rw [insort_map (fun b : V × D => b.2), zip_snd hl]
  rw [← e]
  refine RepL.zip (insort_perm _) ?_
  rw [zip_snd hl, zip_fst hl]; exact h
end VI
namespace VI
open PySem PySem.Spec PyProof.Rows L2
/-! ### lists of plain data -/
section
variable {H : Hp} {P : Addr → Prop}
theorem ints_rep : ∀ {ds : List D} {ns : List Int} {l : Lv} {xs : List V} {f : FP}, intsD ds = some ns → RepL H P ds l xs f → xs = ns.map V.int
  | [], ns, _, _, _, e, h => by cases e; exact h.1
  | d :: ds, ns, l, xs, f, e, h => by
    obtain ⟨v, r, f1, f2, e1, h1, h2, e2⟩ := h
    cases d with
    | int i =>
      obtain ⟨ms, e3, e4⟩ := Option.map_eq_some_iff.mp (show (intsD ds).map (i :: ·) = some ns from e)
      subst e4 e1
      rw [List.map_cons, ← ints_rep e3 h2, h1.1]
    | _ => cases e
theorem bools_rep : ∀ {ds : List D} {ns : List Bool} {l : Lv} {xs : List V} {f : FP}, boolsD ds = some ns → RepL H P ds l xs f → xs = ns.map V.bl
  | [], ns, _, _, _, e, h => by cases e; exact h.1
  | d :: ds, ns, l, xs, f, e, h => by
    obtain ⟨v, r, f1, f2, e1, h1, h2, e2⟩ := h
    cases d with
    | bl i =>
      obtain ⟨ms, e3, e4⟩ := Option.map_eq_some_iff.mp (show (boolsD ds).map (i :: ·) = some ns from e)
      subst e4 e1
      rw [List.map_cons, ← bools_rep e3 h2, h1.1]
    | _ => cases e
theorem strs_rep : ∀ {ds : List D} {ns : List Str} {l : Lv} {xs : List V} {f : FP}, strsD ds = some ns → RepL H P ds l xs f → xs = ns.map V.str
  | [], ns, _, _, _, e, h => by cases e; exact h.1
  | d :: ds, ns, l, xs, f, e, h => by
    obtain ⟨v, r, f1, f2, e1, h1, h2, e2⟩ := h
    cases d with
    | str i =>
      obtain ⟨ms, e3, e4⟩ := Option.map_eq_some_iff.mp (show (strsD ds).map (i :: ·) = some ns from e)
      subst e4 e1
      rw [List.map_cons, ← strs_rep e3 h2, h1.1]
    | _ => cases e
end
theorem least_ok : ∀ (ns : List Int) (m : Int), leastI m ns ∈ m :: ns ∧ ∀ y ∈ m :: ns, leastI m ns ≤ y
  | [], m => ⟨List.mem_cons_self, fun y h => by simp at h; rw [h]; exact Int.le_refl _⟩
  | x :: r, m => by
    obtain ⟨h1, h2⟩ := least_ok r (if x < m then x else m)
    show leastI (if x < m then x else m) r ∈ m :: x :: r ∧ _
    by_cases c : x < m
    · rw [if_pos c] at h1 h2 ⊢
      refine ⟨List.mem_cons_of_mem _ h1, fun y hy => ?_⟩
      rcases List.mem_cons.mp hy with e | hy
      · have := h2 x List.mem_cons_self
        show leastI (if x < m then x else m) r ≤ y
        rw [if_pos c]; omega
      · show leastI (if x < m then x else m) r ≤ y
        rw [if_pos c]; exact h2 y hy
    · rw [if_neg c] at h1 h2 ⊢
      refine ⟨?_, fun y hy => ?_⟩
      · rcases List.mem_cons.mp h1 with e | e
        · rw [e]; exact List.mem_cons_self
        · exact List.mem_cons_of_mem _ (List.mem_cons_of_mem _ e)
      · show leastI (if x < m then x else m) r ≤ y
        rw [if_neg c]
        rcases List.mem_cons.mp hy with e | hy
        · rw [e]; exact h2 m List.mem_cons_self
        · rcases List.mem_cons.mp hy with e | hy
          · have := h2 m List.mem_cons_self; omega
          · exact h2 y (List.mem_cons_of_mem _ hy)
theorem great_ok : ∀ (ns : List Int) (m : Int), greatI m ns ∈ m :: ns ∧ ∀ y ∈ m :: ns, y ≤ greatI m ns
  | [], m => ⟨List.mem_cons_self, fun y h => by simp at h; rw [h]; exact Int.le_refl _⟩
  | x :: r, m => by
    obtain ⟨h1, h2⟩ := great_ok r (if m < x then x else m)
    show greatI (if m < x then x else m) r ∈ m :: x :: r ∧ _
    by_cases c : m < x
    · rw [if_pos c] at h1 h2 ⊢
      refine ⟨List.mem_cons_of_mem _ h1, fun y hy => ?_⟩
      rcases List.mem_cons.mp hy with e | hy
      · have := h2 x List.mem_cons_self
        show y ≤ greatI (if m < x then x else m) r
        rw [if_pos c]; omega
      · show y ≤ greatI (if m < x then x else m) r
        rw [if_pos c]; exact h2 y hy
    · rw [if_neg c] at h1 h2 ⊢
      refine ⟨?_, fun y hy => ?_⟩
      · rcases List.mem_cons.mp h1 with e | e
        · rw [e]; exact List.mem_cons_self
        · exact List.mem_cons_of_mem _ (List.mem_cons_of_mem _ e)
      · show y ≤ greatI (if m < x then x else m) r
        rw [if_neg c]
        rcases List.mem_cons.mp hy with e | hy
        · rw [e]; exact h2 m List.mem_cons_self
        · rcases List.mem_cons.mp hy with e | hy
          · have := h2 m List.mem_cons_self; omega
          · exact h2 y (List.mem_cons_of_mem _ hy)
/-! ### built-ins of one argument -/
abbrev RC := List V → Hp → VK → Prop
theorem CallR.or {Y : Cx} {f : Value} {r r' : RC} (h : CallR Y f r) (h' : CallR Y f r') : CallR Y f (fun x H Q => r x H Q ∨ r' x H Q) := by
  intro pins s σ H xs us Q I rx q
  rcases q with q | q
  · exact h pins s σ H xs us Q I rx q
  · exact h' pins s σ H xs us Q I rx q
def rLenA (K : PySem.W.Frag) : RC := fun xs H Q => (∃ x n, xs = [x] ∧ LenV K x H n ∧ Q (.int n) H) ∨ ∃ p kvs, xs = [.ref p] ∧ H p = some (.dK kvs) ∧ Q (.int kvs.length) H
def rInt1 : RC := fun xs H Q => (∃ i, xs = [.int i] ∧ Q (.int i) H) ∨ ∃ k, xs = [.bl k] ∧ Q (.int (if k then 1 else 0)) H
def rStr1 : RC := fun xs H Q => ∃ i, xs = [.int i] ∧ i.natAbs.log2 < 1920 ∧ Q (.str (toString i)) H
def rAbs : RC := fun xs H Q => ∃ i, xs = [.int i] ∧ Q (.int (if i < 0 then -i else i)) H
def rListOf (K : PySem.W.Frag) : RC := fun xs H Q => ∃ p ys, xs = [.ref p] ∧ (SqL K H p ys ∨ SqT K H p ys) ∧ ∀ l, H l = none → Q (.ref l) (upd H l (.lst ys))
def rTupOf (K : PySem.W.Frag) : RC := fun xs H Q => ∃ p ys, xs = [.ref p] ∧ ((SqL K H p ys ∧ ∀ l, H l = none → Q (.ref l) (upd H l (.tup ys))) ∨ (SqT K H p ys ∧ Q (.ref p) H))
section
variable {Y : Cx}
theorem call_lenA : CallR Y (.builtin "len") (rLenA Y.K) := by
  refine CallR.or call_len ?_
  intro pins s σ H xs us Q I r h
  obtain ⟨p, kvs, rfl, e, q⟩ := h
  obtain ⟨u, rfl, ru⟩ := vals1 r
  cases ru
  exact d_len I (.inl e) fun t s' I' => ⟨.int kvs.length, H, I', ⟨t, rfl⟩, q⟩
end
section
variable {W : WC} {σ : L2.St} {H : Hp} {Q : VK} {K : PySem.W.Frag}
/-- which built-in it is, and its rule -/
def b1N : B1 → Option (Bool × String)
  | .len => some (false, "len") | .abs => some (false, "abs") | .minL => some (false, "min") | .maxL => some (false, "max") | .sum => some (false, "sum")
  | .sorted => some (false, "sorted")
  | .all => some (false, "all") | .any => some (false, "any") | .int => some (true, "int") | .str => some (true, "str") | .list => some (true, "list") | .tuple => some (true, "tuple")
  | _ => none
def rB1 (K : PySem.W.Frag) : B1 → RC
  | .len => rLenA K | .abs => rAbs | .minL => rMin K | .maxL => rMax K | .sum => rSum K | .all => rAll K | .any => rAny K | .int => rInt1 | .str => rStr1 | .list => rListOf K | .tuple => rTupOf K | .sorted => rSortD K false
  | _ => fun _ _ _ => False
theorem b1_rule {Y : Cx} (hc : Y.calm = true) (hu : Y.A.units + 64 < cLine) (b : B1) (n : Bool × String) (h : b1N b = some n) : CallR Y (if n.1 then .type n.2 else .builtin n.2) (rB1 Y.K b) := by
  cases b <;> first
    | (cases h; exact call_lenA)
    | (cases h; exact call_abs)
    | (cases h; exact cr_min hc)
    | (cases h; exact cr_max hc)
    | (cases h; exact cr_sum hc)
    | (cases h; exact cr_all hc)
    | (cases h; exact cr_any hc)
    | (cases h; exact call_int1)
    | (cases h; exact call_str_int)
    | (cases h; exact call_list_of)
    | (cases h; exact call_tuple_of)
    | (cases h; exact call_sortD hu)
    | cases h
theorem kids_one {x : X} {e : Env} {P : Addr → Prop} {F : List FP} {f : FP} {v : V} {g : List D × Lv → Env → R X} (S : St0 σ e H P F) (rx : RX σ H P x v f) (fr : Frm f H P (tot F)) (h : PX W σ H P (fa (tot F) f) ((kids e x).bind g) Q) :
    ∃ ds k e1 P' F' f' a xs, St0 σ e1 H P' F' ∧ v = .ref a ∧ RepL H P' ds k xs f' ∧ Frm f' H P' (tot F') ∧ k ≠ .top ∧ xs.length = ds.length ∧
      ((deref e x = some (.lst ds) ∧ Rd H a (.lst xs)) ∨ (deref e x = some (.tup ds) ∧ Rd H a (.tup xs))) ∧ PX W σ H P' (fa (tot F') f') (g (ds, k) e1) Q := by
  obtain ⟨ds, k, e1, h1, q⟩ := kids_bind h
  obtain ⟨P', F', f', a, xs, S', ea, q', fr', st, d⟩ := kids_ok S rx fr h1
  exact ⟨ds, k, e1, P', F', f', a, xs, S', ea, q', fr', kids_lv h1, q'.len, d, q.from st⟩
mutual
theorem hasK_lay : ∀ {k : SK} {d : D}, hasK k d = true → (py d).canLay0 = true
  | .int, d, h => by
    obtain ⟨i, rfl⟩ := hasK_int h
    simp [py, PyData.canLay0]
  | .str, d, h => by
    obtain ⟨i, rfl, q⟩ := hasK_str' h
    simp [py, PyData.canLay0, q]
  | .lst k, d, h => by
    obtain ⟨ds, rfl, q⟩ := hasK_lst h
    simpa [py, PyData.canLay0] using hasKs_lay q
  | .tup k, d, h => by
    obtain ⟨ds, rfl, q⟩ := hasK_tup h
    simpa [py, PyData.canLay0] using hasKs_lay q
  | .two k m, d, h => by
    obtain ⟨x, y, rfl, q1, q2⟩ := hasK_two h
    simp [py, pyL, PyData.canLay0, PyData.canLayAll0, hasK_lay q1, hasK_lay q2]
theorem hasKs_lay : ∀ {k : SK} {ds : List D}, hasKs k ds = true → PyData.canLayAll0 (pyL ds) = true
  | k, [], _ => by simp [pyL, PyData.canLayAll0]
  | k, d :: ds, h => by
    simp only [hasKs, Bool.and_eq_true] at h
    simp [pyL, PyData.canLayAll0, hasK_lay h.1, hasKs_lay h.2]
end
theorem hasKs_of {k : SK} : ∀ {ds : List D}, (∀ d ∈ ds, hasK k d = true) → hasKs k ds = true
  | [], _ => by simp [hasKs]
  | d :: ds, h => by
    simp only [hasKs, Bool.and_eq_true]
    exact ⟨h d List.mem_cons_self, hasKs_of fun d' h' => h d' (List.mem_cons_of_mem _ h')⟩
theorem b1_sort {rev : Bool} {x : X} {e : Env} {P : Addr → Prop} {F : List FP} {f : FP} {v : V} (hr : rev = false ∨ ∃ ds, deref e x = some (.lst ds)) (S : St0 σ e H P F) (rx : RX σ H P x v f) (fr : Frm f H P (tot F))
    (h : PX W σ H P (fa (tot F) f) ((kids e x).bind fun p e1 => match sortD rev p.1 with | some ds => .ok (mkL ds p.2) e1 | none => .stk) Q) : rSortD K rev [v] H Q := by
  obtain ⟨ds, k, e1, P', F', f', a, xs, S', rfl, q', fr', hk, hl, d, q⟩ := kids_one S rx fr h
  cases hs : sortD rev ds with
  | none => rw [hs] at q; exact q.elim
  | some ds' =>
    rw [hs] at q
    obtain ⟨K', hK, e2⟩ := Option.map_eq_some_iff.mp hs
    subst e2
    obtain ⟨o1, o2, o3⟩ := kindOf_ok hK
    refine ⟨a, xs, ds, K', rfl, ?_, q'.dp (hasKs_lay (hasKs_of o1)), ⟨o1, o2, o3⟩, fun p hp => PX.newL S' (q'.sort rev K') hk fr' (fun _ => Nat.le_refl _) q hp⟩
    rcases d with ⟨_, r⟩ | ⟨z, r⟩
    · exact .inl (.inl r)
    · rcases hr with e3 | ⟨ds3, e3⟩
      · exact .inr ⟨e3, .inl r⟩
      · rw [e3] at z; cases z
theorem b1_ok {b : B1} {v : V} (hb : (b1N b).isSome = true) (h : Ns W σ [v] H (g1 (b1X b)) Q) : rB1 K b [v] H Q := by
  obtain ⟨x, e, P, F, f, S, rx, fr, q⟩ := h.one
  replace q : PX W σ H P (fa (tot F) f) (b1X b x e) Q := q
  clear h
  unfold b1X at q
  split at q
  · rename_i ds hx
    obtain ⟨l, g, r⟩ := deref_ok S rx hx
    obtain ⟨a, xs, g', rfl, r1, r2⟩ := rep_lst r
    exact .inl ⟨_, xs.length, rfl, .inl ⟨xs, .inl r1, rfl⟩, by rw [r2.len]; exact q.val (d := .int ds.length) S (fun a => fa_le a) ⟨rfl, rfl⟩⟩
  · rename_i ds hx
    obtain ⟨l, g, r⟩ := deref_ok S rx hx
    obtain ⟨a, xs, rfl, r1, r2⟩ := rep_tup r
    exact .inl ⟨_, xs.length, rfl, .inr ⟨xs, .inl r1, rfl⟩, by rw [r2.len]; exact q.val (d := .int ds.length) S (fun a => fa_le a) ⟨rfl, rfl⟩⟩
  · rename_i s hx
    obtain ⟨l, g, r⟩ := deref_ok S rx hx
    obtain rfl := rep_str r
    split at q
    · rename_i hz
      exact .inl ⟨_, s.length, rfl, ⟨hz, rfl⟩, q.val (d := .int s.length) S (fun a => fa_le a) ⟨rfl, rfl⟩⟩
    · exact q.elim
  · rename_i ds hx
    obtain ⟨l, g, r⟩ := deref_ok S rx hx
    obtain ⟨a, xs, g', rfl, r1, r2⟩ := rep_dK r
    have hl : xs.length = ds.length := by
      clear q hx r r1
      revert xs g'
      induction ds with
      | nil => intro xs g' h; rw [h.1]; rfl
      | cons p ds ih =>
        obtain ⟨k, d⟩ := p
        intro xs g' h
        obtain ⟨_, _, _, _, e, _, h2, _⟩ := h
        rw [e, List.length_cons, List.length_cons, ih _ _ h2]
    exact .inr ⟨a, xs, rfl, r1, by rw [hl]; exact q.val (d := .int ds.length) S (fun a => fa_le a) ⟨rfl, rfl⟩⟩
  · rename_i i hx
    obtain ⟨l, g, r⟩ := deref_ok S rx hx
    obtain rfl := rep_int r
    exact ⟨i, rfl, q.val (d := .int _) S (fun a => fa_le a) ⟨rfl, rfl⟩⟩
  · rename_i i hx
    obtain ⟨l, g, r⟩ := deref_ok S rx hx
    obtain rfl := rep_int r
    exact .inl ⟨i, rfl, q.val (d := .int _) S (fun a => fa_le a) ⟨rfl, rfl⟩⟩
  · rename_i i hx
    obtain ⟨l, g, r⟩ := deref_ok S rx hx
    obtain rfl := rep_bl r
    exact .inr ⟨i, rfl, q.val (d := .int _) S (fun a => fa_le a) ⟨rfl, rfl⟩⟩
  · rename_i i hx
    obtain ⟨l, g, r⟩ := deref_ok S rx hx
    obtain rfl := rep_int r
    split at q
    · rename_i hz
      exact ⟨i, rfl, hz, q.val (d := .str _) S (fun a => fa_le a) ⟨rfl, rfl⟩⟩
    · exact q.elim
  · rename_i ds hx
    obtain ⟨l, g, r⟩ := deref_ok S rx hx
    obtain ⟨a, xs, g', rfl, r1, r2⟩ := rep_lst r
    obtain ⟨z, hz, q⟩ := ofO_px q
    obtain ⟨ns, hn, e2⟩ := Option.map_eq_some_iff.mp hz
    subst e2
    refine ⟨a, ns, rfl, .inl ?_, q.val (d := .int _) S (fun a => fa_le a) ⟨rfl, rfl⟩⟩
    rw [← ints_rep hn r2]; exact r1
  · rename_i ds hx
    obtain ⟨l, g, r⟩ := deref_ok S rx hx
    obtain ⟨a, xs, g', rfl, r1, r2⟩ := rep_lst r
    obtain ⟨z, hz, q⟩ := ofO_px q
    obtain ⟨ns, hn, e2⟩ := Option.bind_eq_some_iff.mp hz
    cases ns with
    | nil => cases e2
    | cons n ns =>
      cases e2
      refine ⟨a, n :: ns, rfl, .inl ?_, by simp, fun m hm hle => ?_⟩
      · rw [← ints_rep hn r2]; exact r1
      · obtain ⟨h1, h2⟩ := least_ok ns n
        have e3 : m = leastI n ns := Int.le_antisymm (hle _ h1) (h2 _ hm)
        rw [e3]
        exact q.val (d := .int _) S (fun a => fa_le a) ⟨rfl, rfl⟩
  · rename_i ds hx
    obtain ⟨l, g, r⟩ := deref_ok S rx hx
    obtain ⟨a, xs, g', rfl, r1, r2⟩ := rep_lst r
    obtain ⟨z, hz, q⟩ := ofO_px q
    obtain ⟨ns, hn, e2⟩ := Option.bind_eq_some_iff.mp hz
    cases ns with
    | nil => cases e2
    | cons n ns =>
      cases e2
      refine ⟨a, n :: ns, rfl, .inl ?_, by simp, fun m hm hle => ?_⟩
      · rw [← ints_rep hn r2]; exact r1
      · obtain ⟨h1, h2⟩ := great_ok ns n
        have e3 : m = greatI n ns := Int.le_antisymm (h2 _ hm) (hle _ h1)
        rw [e3]
        exact q.val (d := .int _) S (fun a => fa_le a) ⟨rfl, rfl⟩
  · rename_i ds hx
    obtain ⟨l, g, r⟩ := deref_ok S rx hx
    obtain ⟨a, xs, g', rfl, r1, r2⟩ := rep_lst r
    obtain ⟨z, hz, q⟩ := ofO_px q
    obtain ⟨ns, hn, e2⟩ := Option.map_eq_some_iff.mp hz
    subst e2
    refine ⟨a, ns, rfl, .inl ?_, q.val (d := .bl _) S (fun a => fa_le a) ⟨rfl, rfl⟩⟩
    rw [← bools_rep hn r2]; exact r1
  · rename_i ds hx
    obtain ⟨l, g, r⟩ := deref_ok S rx hx
    obtain ⟨a, xs, g', rfl, r1, r2⟩ := rep_lst r
    obtain ⟨z, hz, q⟩ := ofO_px q
    obtain ⟨ns, hn, e2⟩ := Option.map_eq_some_iff.mp hz
    subst e2
    refine ⟨a, ns, rfl, .inl ?_, q.val (d := .bl _) S (fun a => fa_le a) ⟨rfl, rfl⟩⟩
    rw [← bools_rep hn r2]; exact r1
  · rename_i hx
    obtain ⟨ds, k, e1, P', F', f', a, xs, S', rfl, q', fr', hk, hl, d, q⟩ := kids_one S rx fr q
    refine ⟨a, xs, rfl, ?_, fun p hp => PX.newL S' q' hk fr' (fun _ => Nat.le_refl _) q hp⟩
    rcases d with ⟨_, r⟩ | ⟨_, r⟩
    · exact .inl (.inl r)
    · exact .inr (.inl r)
  · rename_i hx
    obtain ⟨ds, k, e1, P', F', f', a, xs, S', rfl, q', fr', hk, hl, d, q⟩ := kids_one S rx fr q
    refine ⟨a, xs, rfl, ?_, fun p hp => PX.newL S' q' hk fr' (fun _ => Nat.le_refl _) q hp⟩
    rcases d with ⟨_, r⟩ | ⟨_, r⟩
    · exact .inl (.inl r)
    · exact .inr (.inl r)
  · rename_i hx
    obtain ⟨ds, k, e1, P', F', f', a, xs, S', rfl, q', fr', hk, hl, d, q⟩ := kids_one S rx fr q
    refine ⟨a, xs, rfl, .inl ⟨?_, fun p hp => PX.newT S' q' hk fr' (fun _ => Nat.le_refl _) q hp⟩⟩
    rcases d with ⟨_, r⟩ | ⟨z, r⟩
    · exact .inl r
    · rw [hx] at z; cases z
  · rename_i hx
    obtain ⟨ds, k, e1, P', F', f', a, xs, S', rfl, q', fr', hk, hl, d, q⟩ := kids_one S rx fr q
    have r : Rd H a (.tup xs) := by
      rcases d with ⟨z, r⟩ | ⟨z, r⟩
      · rw [hx] at z; cases z
      · exact r
    refine ⟨a, xs, rfl, .inr ⟨.inl r, q _ H P' F' f' S' ⟨a, xs, rfl, r, ?_⟩ fr' (.refl _ _ _)⟩⟩
    have e : k.pred = k := by cases k <;> first | rfl | exact absurd rfl hk
    rw [e]; exact q'
  · simp [b1N] at hb
  · exact b1_sort (K := K) (.inl rfl) S rx fr q
  · exact b1_sort (K := K) (.inl rfl) S rx fr q
  · simp [b1N] at hb
  · simp [b1N] at hb
  · simp [b1N] at hb
  all_goals first
    | exact q.elim
    | simp [b1N] at hb
end
end VI
namespace VI
open PySem PySem.Spec PyProof.Rows L2
section
variable {cs : CS} {W : WC} {σ : L2.St} {H : Hp} {Q Q' : VK} {K : PySem.W.Frag} {m a b c : E}
theorem PX.mono {P : Addr → Prop} {T : FP} {r : R X} (h : PX W σ H P T r Q) (i : ∀ v H', Q v H' → Q' v H') : PX W σ H P T r Q' := by
  cases r with
  | ok x e' => exact fun v H' P' F' f S q fr st => i v H' (h v H' P' F' f S q fr st)
  | exc c e' => exact h
  | stk => exact h
theorem tI_mono (h : tI cs W m σ H Q) (i : ∀ v H', Q v H' → Q' v H') : tI cs W m σ H Q' := by
  obtain ⟨e, P, F, S, q⟩ := h
  exact ⟨e, P, F, S, q.mono i⟩
theorem part1 {f : X → Env → R X} (h : tI cs W m σ H Q) (hm : ∀ e, evalE cs m e = (evalE cs a e).bind f) : tI cs W a σ H fun v H1 => Ns W σ [v] H1 (g1 f) Q :=
  (Ns.start h (G := fun _ e => evalE cs m e) fun _ => rfl).next (G' := g1 f) fun xs e hl => by
    cases xs with
    | nil => exact hm e
    | cons _ _ => cases hl
theorem part2 {f : X → X → Env → R X} (h : tI cs W m σ H Q) (hm : ∀ e, evalE cs m e = (evalE cs a e).bind fun x e1 => (evalE cs b e1).bind fun y e2 => f x y e2) :
    tI cs W a σ H fun v H1 => tI cs W b σ H1 fun w H2 => Ns W σ [v, w] H2 (g2 f) Q :=
  tI_mono (part1 h hm) fun v H1 n => n.next (G' := g2 f) fun xs e hl => by
    match xs, hl with
    | [x], _ => rfl
theorem part3 {f : X → X → X → Env → R X} (h : tI cs W m σ H Q) (hm : ∀ e, evalE cs m e = (evalE cs a e).bind fun x e1 => (evalE cs b e1).bind fun y e2 => (evalE cs c e2).bind fun z e3 => f x y z e3) :
    tI cs W a σ H fun v H1 => tI cs W b σ H1 fun w H2 => tI cs W c σ H2 fun u H3 => Ns W σ [v, w, u] H3 (g3 f) Q :=
  tI_mono (part1 h hm) fun v H1 n => tI_mono (n.next (G' := fun xs e => match xs with | [x, y] => (evalE cs c e).bind fun z e3 => f x y z e3 | _ => .stk) fun xs e hl => by
    match xs, hl with
    | [x], _ => rfl) fun w H2 n => n.next (G' := g3 f) fun xs e hl => by
    match xs, hl with
    | [x, y], _ => rfl
/-! ### tests -/
theorem truV_ok {P : Addr → Prop} {d : D} {k : Bool} {l : Lv} {v : V} {f : FP} (h : truthy d = some k) (r : RepD H P d l v f) : TruV K v H k := by
  cases d with
  | non => cases h; rw [r.1]; exact rfl
  | bl b => cases h; rw [r.1]; exact rfl
  | int i => cases h; rw [r.1]; exact rfl
  | str s =>
    have h' : (if s.length ≤ sizeLine then some ((s.length : Int) != 0) else none) = some k := h
    split at h'
    · rename_i hz
      cases h'; rw [r.1]; exact ⟨hz, rfl⟩
    · cases h'
  | lst ds =>
    cases h
    obtain ⟨a, xs, g, rfl, r1, r2⟩ := rep_lst r
    have hl := r2.len
    refine .inl ⟨xs, .inl r1, ?_⟩
    cases xs <;> cases ds <;> simp_all
  | tup ds =>
    cases h
    obtain ⟨a, xs, rfl, r1, r2⟩ := rep_tup r
    have hl := r2.len
    refine .inr (.inl ⟨xs, .inl r1, ?_⟩)
    cases xs <;> cases ds <;> simp_all
  | dK ds =>
    cases h
    obtain ⟨a, xs, g', rfl, r1, r2⟩ := rep_dK r
    refine .inr (.inr ⟨xs, r1, ?_⟩)
    cases ds with
    | nil => rw [r2.1]; rfl
    | cons p ds =>
      obtain ⟨k, d⟩ := p
      obtain ⟨_, _, _, _, e, _⟩ := r2
      rw [e]; rfl
  | dT _ => cases h
  | hole => cases h
theorem PB.px {P : Addr → Prop} {T : FP} {r : R X} {Q : Bool → Hp → Prop} (h : PB W σ H P T (tst r) Q) : PX W σ H P T r fun x H' => ∃ k, TruV K x H' k ∧ Q k H' := by
  cases r with
  | ok x e' =>
    intro v H' P' F' f S rx fr st
    replace h : PB W σ H P T (ofO ((deref e' x).bind truthy) e') Q := h
    cases hd : deref e' x with
    | none => rw [hd] at h; exact h.elim
    | some d =>
      rw [hd] at h
      obtain ⟨l, g, r⟩ := deref_ok S rx hd
      cases ht : truthy d with
      | none => rw [show (some d).bind truthy = none from ht] at h; exact h.elim
      | some k =>
        rw [show (some d).bind truthy = some k from ht] at h
        exact ⟨k, truV_ok ht r, h H' P' F' S (st.mono (fun _ => Nat.le_refl _) fun a => by simp)⟩
  | exc c e' => exact h
  | stk => exact h
theorem tT.px {Q : Bool → Hp → Prop} (h : tT cs W m σ H Q) : tI cs W m σ H fun x H' => ∃ k, TruV K x H' k ∧ Q k H' := by
  obtain ⟨e, P, F, S, q⟩ := h
  exact ⟨e, P, F, S, q.px⟩
theorem PB.mono {α : Type} {P : Addr → Prop} {T : FP} {r : R α} {Q Q' : α → Hp → Prop} (h : PB W σ H P T r Q) (i : ∀ v H', Q v H' → Q' v H') : PB W σ H P T r Q' := by
  cases r with
  | ok x e' => exact fun H' P' F' S st => i x H' (h H' P' F' S st)
  | exc c e' => exact h
  | stk => exact h
theorem PB.from {α : Type} {H1 : Hp} {P P1 : Addr → Prop} {T T1 : FP} {r : R α} {Q : α → Hp → Prop} (s : Stp H P T H1 P1 T1) (h : PB W σ H P T r Q) : PB W σ H1 P1 T1 r Q := by
  cases r with
  | ok x e' => exact fun H' P' F' S st => h H' P' F' S (s.trans st)
  | exc c e' => exact fun H' P' F' S st => h H' P' F' S (s.trans st)
  | stk => exact h
/-- a truth is its own test -/
theorem boo_tst {r : R X} (h : boo r ≠ .stk) : boo r = tst r := by
  cases r with
  | ok x e =>
    have h' : (match deref e x with | some (.bl b) => R.ok b e | _ => .stk) ≠ .stk := h
    show (match deref e x with | some (.bl b) => R.ok b e | _ => .stk) = ofO ((deref e x).bind truthy) e
    split at h'
    · rename_i b hb
      rw [hb]; rfl
    · exact absurd rfl h'
  | exc c e => rfl
  | stk => rfl
/-- .. what it gives as a value -/
theorem PB.boo {P : Addr → Prop} {T : FP} {r : R X} {Q : Bool → Hp → Prop} (h : PB W σ H P T (VI.boo r) Q) : PX W σ H P T r fun x H' => ∃ k, x = .bl k ∧ Q k H' := by
  cases r with
  | ok x e' =>
    intro v H' P' F' f S rx fr st
    replace h : PB W σ H P T (match deref e' x with | some (.bl b) => R.ok b e' | _ => .stk) Q := h
    split at h
    · rename_i b hb
      obtain ⟨l, g, r⟩ := deref_ok S rx hb
      exact ⟨b, rep_bl r, h H' P' F' S (st.mono (fun _ => Nat.le_refl _) fun a => by simp)⟩
    · exact h.elim
  | exc c e' => exact h
  | stk => exact h
theorem PB.tst {P : Addr → Prop} {T : FP} {r : R X} {Q : Bool → Hp → Prop} (h : PB W σ H P T (VI.boo r) Q) : PB W σ H P T (VI.tst r) Q := by
  rw [← boo_tst]; · exact h
  intro z; rw [z] at h; exact h
/-- a test and what comes behind it -/
theorem PB.bindI {P : Addr → Prop} {F : List FP} {r : R Bool} {g : Bool → Env → R X} (h : PX W σ H P (tot F) (r.bind g) Q) :
    PB W σ H P (tot F) r fun k H' => ∃ e' P' F', St0 σ e' H' P' F' ∧ PX W σ H' P' (tot F') (g k e') Q := by
  cases r with
  | ok k e' => exact fun H' P' F' S st => ⟨e', P', F', S, h.from st⟩
  | exc c e' => exact h
  | stk => exact h
theorem PB.bindB {P : Addr → Prop} {F : List FP} {r : R Bool} {Q : Bool → Hp → Prop} {g : Bool → Env → R Bool} (h : PB W σ H P (tot F) (r.bind g) Q) :
    PB W σ H P (tot F) r fun k H' => ∃ e' P' F', St0 σ e' H' P' F' ∧ PB W σ H' P' (tot F') (g k e') Q := by
  cases r with
  | ok k e' => exact fun H' P' F' S st => ⟨e', P', F', S, h.from st⟩
  | exc c e' => exact h
  | stk => exact h
/-- a value that is a truth, as a test -/
theorem tT_ok {Q : Bool → Hp → Prop} {r : R Bool} {P : Addr → Prop} {T : FP} (h : PB W σ H P T (VI.tst (r.bind fun k e => .ok (im (.bl k)) e)) Q) : PB W σ H P T r Q := by
  cases r with
  | ok k e' => exact h
  | exc c e' => exact h
  | stk => exact h
theorem bind_assoc {α β γ : Type} (r : R α) (f : α → Env → R β) (g : β → Env → R γ) : (r.bind f).bind g = r.bind fun x e => (f x e).bind g := by cases r <;> rfl
end
end VI
namespace VI
open PySem PySem.Spec PyProof.Rows L2
/-- no star, no slice, no set -/
def plX : Expr → Bool
  | .Starred .. => false | .Slice .. => false | .Set .. => false | _ => true
/-- its test is its value's -/
def tkX : Expr → Bool
  | .UnaryOp .Not .. => false | .BoolOp .. => false | .IfExp .. => false | .Compare .. => false | _ => true
def isBop : Expr → Bool
  | .BoolOp .. => true | _ => false
def isIf : Expr → Bool
  | .IfExp .. => true | _ => false
theorem tkX_ok {e : Expr} (h : tkX e = true) (env : PySem.Env) : ∀ whole, isTrue e env whole = (do let v ← whole; standAt e.pos; holding [v] (PySem.truthy v)) := by
  intro whole
  cases e with
  | UnaryOp op x pos => cases op <;> first | rfl | cases h
  | BoolOp => cases h
  | IfExp => cases h
  | Compare => cases h
  | _ => rfl
theorem plX_ix {e : Expr} (h : plX e = true) : PlainIx e := by
  intro o i
  cases e <;> first | rfl | cases h
theorem plX_mark {e : Expr} (h : plX e = true) (op : CmpOp) : behindInMarks op e = false := by
  cases e <;> first | rfl | cases h
theorem plX_star {e : Expr} (h : plX e = true) (es : List Expr) (env : PySem.Env) : starEach (e :: es) env = (false, eval e env) :: starEach es env := by
  cases e <;> first | rfl | cases h
theorem plX_fold {e : Expr} (h : plX e = true) (env : PySem.Env) : ∀ x, foldedSetIterable e env x = pure x := by
  intro x
  cases e <;> first | rfl | cases h
/-- the text m stands for e -/
structure Snd (X : Cx) (cs : CS) (W : WC) (m : E) (e : Expr) : Prop where
  pl : plX e = true
  pe : PE X e (tI cs W m)
  pt : isIf e = false → PT X e (tT cs W m)
  pw : isBop e = true → PW X e (tT cs W m)
section
variable {X : Cx} {cs : CS} {W : WC} {m ma mb mc md : E} {e a b c d : Expr} {pos : Pos}
theorem Snd.plain (hp : plX e = true) (ht : tkX e = true) (he : PE X e (tI cs W m)) : Snd X cs W m e :=
  ⟨hp, he, fun _ => pt_imp (pt_truth he (tkX_ok ht _)) fun σ H Q h => tT.px h, fun h => by cases e <;> first | (cases h; done) | (cases ht; done)⟩
/-- a comparison -/
theorem Snd.cmp' {l : Expr} {ops : List CmpOp} {es : List Expr} {t : TE} (he : PE X (.Compare l ops es pos) t) (ht : PT X (.Compare l ops es pos) (tTest t)) (i : ∀ σ H Q, tI cs W m σ H Q → t σ H Q)
    (j : ∀ σ H Q, tT cs W m σ H Q → t σ H fun x H' => ∃ k, x = .bl k ∧ Q k H') : Snd X cs W m (.Compare l ops es pos) :=
  ⟨rfl, pe_imp he i, fun _ => pt_imp ht j, fun h => by cases h⟩
/-! constants and names -/
theorem im_ok (d : D) {v : V} {σ : L2.St} {H : Hp} {Q : VK} (hm : ∀ e, evalE cs m e = .ok (im d) e) (r : ∀ P, RepD H P d .full v fz) (h : tI cs W m σ H Q) : Q v H := by
  obtain ⟨e, P, F, S, q⟩ := h
  rw [hm] at q
  exact q.val S (fun _ => Nat.le_refl _) (r P)
theorem snd_non {j : Nat} : Snd X cs W .non (.Constant .none j pos) := .plain rfl rfl (pe_imp pe_non fun σ H Q h => im_ok .non (fun _ => by rw [evalE]) (fun _ => ⟨rfl, rfl⟩) h)
theorem snd_bl {k : Bool} {j : Nat} : Snd X cs W (.bl k) (.Constant (.bool k) j pos) := .plain rfl rfl (pe_imp pe_bl fun σ H Q h => im_ok (.bl k) (fun _ => by rw [evalE]) (fun _ => ⟨rfl, rfl⟩) h)
theorem snd_int {i : Int} {j : Nat} : Snd X cs W (.int i) (.Constant (.int i) j pos) := .plain rfl rfl (pe_imp pe_int fun σ H Q h => im_ok (.int i) (fun _ => by rw [evalE]) (fun _ => ⟨rfl, rfl⟩) h)
theorem snd_str {z : Str} {j : Nat} : Snd X cs W (.str z) (.Constant (.str z) j pos) := .plain rfl rfl (pe_imp pe_str fun σ H Q h => im_ok (.str z) (fun _ => by rw [evalE]) (fun _ => ⟨rfl, rfl⟩) h)
theorem snd_gint {x : Str} {i : Int} {u : Value} (hg : Gl X x) (hm : X.mg x = some u) (r : RelV (.int i) u) (hd : (x == ("__debug__" : Str)) = false) : Snd X cs W (.gint x i) (.Name x pos) :=
  .plain rfl rfl (pe_imp (pe_glob hg hm r hd) fun σ H Q h => im_ok (.int i) (fun _ => by rw [evalE]) (fun _ => ⟨rfl, rfl⟩) h)
theorem snd_gstr {x z : Str} {u : Value} (hg : Gl X x) (hm : X.mg x = some u) (r : RelV (.str z) u) (hd : (x == ("__debug__" : Str)) = false) : Snd X cs W (.gstr x z) (.Name x pos) :=
  .plain rfl rfl (pe_imp (pe_glob hg hm r hd) fun σ H Q h => im_ok (.str z) (fun _ => by rw [evalE]) (fun _ => ⟨rfl, rfl⟩) h)
theorem snd_var {i : Nat} {x : Str} (hN : X.N[i]? = some x) (hv : Vis X.env.scope x) (hd : (x == ("__debug__" : Str)) = false) (hcd : (x == ("__classdict__" : Str)) = false) : Snd X cs W (.var i) (.Name x pos) :=
  .plain rfl rfl (pe_imp (pe_var hN hv hd hcd) fun σ H Q h => by
    obtain ⟨e, P, F, S, q⟩ := h
    rw [evalE] at q
    split at q
    · rename_i d l hg
      obtain ⟨v, f, h1, h2, h3⟩ := S.rel.get (gt_own hg)
      exact ⟨v, h1, q v H P F fz S ⟨h1, rfl⟩ Frm.z (by rw [fa_z]; exact .refl _ _ _)⟩
    · exact q.elim)
theorem snd_mov {i : Nat} {x : Str} (hN : X.N[i]? = some x) (hv : Vis X.env.scope x) (hd : (x == ("__debug__" : Str)) = false) (hcd : (x == ("__classdict__" : Str)) = false) : Snd X cs W (.mov i) (.Name x pos) :=
  .plain rfl rfl (pe_imp (pe_var hN hv hd hcd) fun σ H Q h => by
    obtain ⟨e, P, F, S, q⟩ := h
    rw [evalE] at q
    split at q
    · rename_i d l hg
      obtain ⟨v, f, h1, h2, h3⟩ := S.rel.get (gt_own hg)
      have rel := Rels.kill (i := i) (some v) S.rel
      rw [set_get_self h1] at rel
      have ts : ∀ a, tot (F.set i fz) a + f a = tot F a := fun a => by
        have := tot_set fz a h2
        simpa using this
      refine ⟨v, h1, q v H P (F.set i fz) f ⟨rel, fun a => by have := ts a; have := S.one a; omega, fun a z => by have := ts a; have := S.sep a z; omega, S.inP, fun a z => S.inT a (by have := ts a; omega)⟩ h3 (fun a z => ?_) ?_⟩
      · have h4 := ts a
        have h5 := S.one a
        refine ⟨by omega, by omega, fun z' => by have := S.sep a z'; omega, S.inT a (by omega)⟩
      · exact (Stp.refl H P _).mono (fun _ => Nat.le_refl _) fun a => by have := ts a; simp; omega
    · exact q.elim)
/-! operators -/
theorem snd_op {o : Op2} (ha : Snd X cs W ma a) (hb : Snd X cs W mb b) : Snd X cs W (.op o ma mb) (.BinOp a (opC o) b pos) :=
  .plain rfl rfl (pe_imp (pe_op (op_all o) ha.pe hb.pe) fun σ H Q h => tI_mono (part2 h fun _ => by rw [evalE]) fun v H1 h1 => tI_mono h1 fun w H2 n => opX_ok n)
theorem snd_neg (ha : Snd X cs W ma a) : Snd X cs W (.neg ma) (.UnaryOp .USub a pos) :=
  .plain rfl rfl (pe_imp (pe_un un_neg ha.pe) fun σ H Q h => tI_mono (part1 h fun _ => by rw [evalE]) fun v H1 n => by
    obtain ⟨x, e, P, F, f, S, rx, fr, q⟩ := n.one
    replace q : PX W σ H1 P (fa (tot F) f) (match deref e x with | some (.int i) => .ok (im (.int (-i))) e | _ => .stk) Q := q
    split at q
    · rename_i i hx
      obtain ⟨l, g, r⟩ := deref_ok S rx hx
      obtain rfl := rep_int r
      exact ⟨i, rfl, q.val (d := .int (-i)) S (fun a => fa_le a) ⟨rfl, rfl⟩⟩
    · exact q.elim)
theorem cmp_test {o : Cm} {K : PySem.W.Frag} {v w : V} {σ : L2.St} {H : Hp} {Q : Bool → Hp → Prop} (n : Ns W σ [v, w] H (g2 (cmpX o)) fun x H' => ∃ k, TruV K x H' k ∧ Q k H') : rCm K o v w H fun x H' => ∃ k, x = .bl k ∧ Q k H' := by
  obtain ⟨x, y, e, P, F, f, g, S, rx, ry, fr, q⟩ := n.two
  replace q : PX W σ H P (fa (tot F) (fa f g)) (cmpX o x y e) (fun x H' => ∃ k, TruV K x H' k ∧ Q k H') := q
  rw [← bind_self (cmpX o x y e)] at q
  obtain ⟨c, h1, h2⟩ := cmpX_ok (K := K) S rx ry q
  obtain ⟨k, h3, h4⟩ := h2.val (d := .bl c) (v := .bl c) S (fun a => fa_le a) ⟨rfl, rfl⟩
  refine h1 _ ⟨k, ?_, h4⟩
  rw [show k = c from h3]
theorem snd_cmp {o : Cm} {k : Nat} (hr : Room k X.A) (ha : Snd X cs W ma a) (hb : Snd X cs W mb b) : Snd X cs W (.cmp o ma mb) (.Compare a [cmC o] [b] pos) := by
  have hu : X.A.units + 65 < cLine := by have := hr.un; omega
  refine .cmp' (t := tOp (rCm X.K o) (tI cs W ma) (tI cs W mb)) (pe_cmpR (cm_all hu o) ha.pe hb.pe (plX_mark hb.pl _)) (pt_cmpR (cm_all hu o) ha.pe hb.pe (plX_mark hb.pl _)) (fun σ H Q h => ?_) fun σ H Q h => ?_
  · exact tI_mono (part2 h fun _ => by rw [evalE]) fun v H1 h1 => tI_mono h1 fun w H2 n => cmpX_end n
  · exact tI_mono (part2 (tT.px h) fun _ => by rw [evalE]) fun v H1 h1 => tI_mono h1 fun w H2 n => cmp_test n
/-! is -/
def rIs (pos : Bool) : R2 := fun x y H Q => (y = .non ∧ Q (.bl (if pos then decide (x = .non) else !decide (x = .non))) H) ∨ ∃ a b, x = .bl a ∧ y = .bl b ∧ Q (.bl (if pos then decide (a = b) else !decide (a = b))) H
def isC : Bool → CmpOp
  | true => .Is | false => .IsNot
theorem op_isA (pos : Bool) : OpR X (compareOp (isC pos)) (rIs pos) := by
  intro pins s σ H x y v u Q I rx ry h
  rcases h with ⟨rfl, q⟩ | h
  · cases (show u = Value.none from ry)
    cases pos with
    | true => exact is_none_gen ⟨.bl _, H, I, by rw [rx.none_iff]; rfl, q⟩
    | false => exact isnot_none_gen ⟨.bl _, H, I, by rw [rx.none_iff]; rfl, q⟩
  · cases pos with
    | true => exact op_is_bl pins s σ H x y v u Q I rx ry h
    | false => exact op_isnot_bl pins s σ H x y v u Q I rx ry h
theorem isc_ok {p : Bool} {σ : L2.St} {H : Hp} {Q : VK} {v w : V} (n : Ns W σ [v, w] H (g2 fun x y e2 => match deref e2 x, deref e2 y with
    | some d, some k => ofO ((iscD p d k).map fun b => im (.bl b)) e2
    | _, _ => .stk) Q) : ∃ c, (∀ Q' : VK, Q' (.bl c) H → rIs p v w H Q') ∧ Q (.bl c) H := by
  obtain ⟨x, y, e, P, F, f, g, S, rx, ry, fr, q⟩ := n.two
  replace q : PX W σ H P (fa (tot F) (fa f g)) (match deref e x, deref e y with
    | some d, some k => ofO ((iscD p d k).map fun b => im (.bl b)) e
    | _, _ => .stk) Q := q
  split at q
  · rename_i d k hx hy
    obtain ⟨l1, g1, r1⟩ := deref_ok S rx hx
    obtain ⟨l2, g2, r2⟩ := deref_ok S ry hy
    obtain ⟨z, hz, q⟩ := ofO_px q
    obtain ⟨c, hc, e2⟩ := Option.map_eq_some_iff.mp hz
    subst e2
    refine ⟨c, fun Q' q' => ?_, q.val (d := .bl c) S (fun a => fa_le a) ⟨rfl, rfl⟩⟩
    cases k with
    | non =>
      refine .inl ⟨r2.1, ?_⟩
      have dn : (d ≠ .non → d ≠ .hole → decide (v = .non) = false) := fun h h' => by
        refine decide_eq_false fun z => ?_
        cases d with
        | non => exact h rfl
        | hole => exact h' rfl
        | bl => rw [rep_bl r1] at z; cases z
        | int => rw [rep_int r1] at z; cases z
        | str => rw [rep_str r1] at z; cases z
        | lst => obtain ⟨_, _, _, e, _⟩ := rep_lst r1; rw [e] at z; cases z
        | tup => obtain ⟨_, _, e, _⟩ := rep_tup r1; rw [e] at z; cases z
        | dK => obtain ⟨_, _, _, e, _⟩ := rep_dK r1; rw [e] at z; cases z
        | dT => obtain ⟨_, _, _, e, _⟩ := r1; rw [e] at z; cases z
      cases d with
      | non =>
        have e := r1.1
        cases hc
        subst e
        simpa using q'
      | hole => cases hc
      | _ =>
        cases hc
        rw [dn (by simp) (by simp)]
        cases p <;> exact q'
    | bl y =>
      cases d with
      | bl x =>
        cases hc
        exact .inr ⟨x, y, rep_bl r1, rep_bl r2, q'⟩
      | _ => cases hc
    | _ => cases hc
  · exact q.elim
theorem snd_isc {p : Bool} (ha : Snd X cs W ma a) (hb : Snd X cs W mb b) : Snd X cs W (.isc p ma mb) (.Compare a [isC p] [b] pos) := by
  refine .cmp' (t := tOp (rIs p) (tI cs W ma) (tI cs W mb)) (pe_cmpR (op_isA p) ha.pe hb.pe (plX_mark hb.pl _)) (pt_cmpR (op_isA p) ha.pe hb.pe (plX_mark hb.pl _)) (fun σ H Q h => ?_) fun σ H Q h => ?_
  · exact tI_mono (part2 h fun _ => by rw [evalE]) fun v H1 h1 => tI_mono h1 fun w H2 n => by
      obtain ⟨c, h1, h2⟩ := isc_ok n
      exact h1 Q h2
  · exact tI_mono (part2 (tT.px (K := X.K) h) fun _ => by rw [evalE]) fun v H1 h1 => tI_mono h1 fun w H2 n => by
      obtain ⟨c, h1, k, h2, h3⟩ := isc_ok n
      refine h1 _ ⟨k, ?_, h3⟩
      rw [show k = c from h2]
end
end VI
namespace VI
open PySem PySem.Spec PyProof.Rows L2
section
variable {X : Cx} {cs : CS} {W : WC} {m ma mb mc md : E} {e a b c d : Expr} {pos : Pos} {rest : List Expr}
/-! ### and, or, not, if-else -/
theorem boo_end {P : Addr → Prop} {F : List FP} {r : R VI.X} {σ : L2.St} {H : Hp} {Q : VK} (h : PX W σ H P (tot F) ((boo r).bind fun u e2 => .ok (im (.bl u)) e2) Q) : PX W σ H P (tot F) r Q :=
  (PB.boo (PB.bindI h)).mono fun v H' ⟨k, ev, e', P', F', S', q'⟩ => by
    subst ev
    exact q'.val (d := .bl k) S' (fun _ => Nat.le_refl _) ⟨rfl, rfl⟩
theorem tst_bind {α : Type} (r : R α) (f : α → Env → R VI.X) : tst (r.bind f) = r.bind fun x e => tst (f x e) := by cases r <;> rfl
theorem and_v {σ : L2.St} {H : Hp} {Q : VK} (h : tI cs W (.and ma mb) σ H Q) : tAndV (tI cs W ma) (tI cs W mb) σ H Q := by
  obtain ⟨e, P, F, S, q⟩ := h
  rw [evalE] at q
  refine ⟨e, P, F, S, (PB.boo (PB.bindI q)).mono fun v H' ⟨k, ev, e', P', F', S', q'⟩ => ⟨k, ev, ?_⟩⟩
  cases k with
  | true => exact ⟨e', P', F', S', boo_end q'⟩
  | false => exact q'.val (d := .bl false) S' (fun _ => Nat.le_refl _) ⟨rfl, rfl⟩
theorem or_v {σ : L2.St} {H : Hp} {Q : VK} (h : tI cs W (.or ma mb) σ H Q) : tOrV (tI cs W ma) (tI cs W mb) σ H Q := by
  obtain ⟨e, P, F, S, q⟩ := h
  rw [evalE] at q
  refine ⟨e, P, F, S, (PB.boo (PB.bindI q)).mono fun v H' ⟨k, ev, e', P', F', S', q'⟩ => ⟨k, ev, ?_⟩⟩
  cases k with
  | false => exact ⟨e', P', F', S', boo_end q'⟩
  | true => exact q'.val (d := .bl true) S' (fun _ => Nat.le_refl _) ⟨rfl, rfl⟩
theorem and_t {σ : L2.St} {H : Hp} {Q : Bool → Hp → Prop} (h : tT cs W (.and ma mb) σ H Q) : tAnd (tT cs W ma) (tT cs W mb) σ H Q := by
  obtain ⟨e, P, F, S, q⟩ := h
  rw [evalE, tst_bind] at q
  refine ⟨e, P, F, S, (PB.tst (PB.bindB q)).mono fun k H' ⟨e', P', F', S', q'⟩ => ?_⟩
  cases k with
  | true => exact ⟨e', P', F', S', PB.tst (tT_ok q')⟩
  | false => exact q' H' P' F' S' (.refl _ _ _)
theorem or_t {σ : L2.St} {H : Hp} {Q : Bool → Hp → Prop} (h : tT cs W (.or ma mb) σ H Q) : tOr (tT cs W ma) (tT cs W mb) σ H Q := by
  obtain ⟨e, P, F, S, q⟩ := h
  rw [evalE, tst_bind] at q
  refine ⟨e, P, F, S, (PB.tst (PB.bindB q)).mono fun k H' ⟨e', P', F', S', q'⟩ => ?_⟩
  cases k with
  | false => exact ⟨e', P', F', S', PB.tst (tT_ok q')⟩
  | true => exact q' H' P' F' S' (.refl _ _ _)
theorem snd_and2 (ha : Snd X cs W ma a) (hb : Snd X cs W mb b) (h1 : isIf a = false) (h2 : isIf b = false) : Snd X cs W (.and ma mb) (.BoolOp .And [a, b] pos) :=
  have w : PW X (.BoolOp .And [a, b] pos) (tT cs W (.and ma mb)) := ⟨fun wh pins s σ H Q I q => (pw_and (ha.pt h1) (pw_and1 (hb.pt h2))).run wh pins s σ H Q I (and_t q)⟩
  ⟨rfl, pe_imp (pe_and ha.pe (pe_one hb.pe)) fun σ H Q h => and_v h, fun _ => w.pt, fun _ => w⟩
theorem snd_and (ha : Snd X cs W ma a) (hb : Snd X cs W mb (.BoolOp .And (b :: rest) pos)) (h1 : isIf a = false) : Snd X cs W (.and ma mb) (.BoolOp .And (a :: b :: rest) pos) :=
  have w : PW X (.BoolOp .And (a :: b :: rest) pos) (tT cs W (.and ma mb)) := ⟨fun wh pins s σ H Q I q => (pw_and (ha.pt h1) (hb.pw rfl)).run wh pins s σ H Q I (and_t q)⟩
  ⟨rfl, pe_imp (pe_and ha.pe hb.pe) fun σ H Q h => and_v h, fun _ => w.pt, fun _ => w⟩
theorem snd_or2 (ha : Snd X cs W ma a) (hb : Snd X cs W mb b) (h1 : isIf a = false) (h2 : isIf b = false) : Snd X cs W (.or ma mb) (.BoolOp .Or [a, b] pos) :=
  have w : PW X (.BoolOp .Or [a, b] pos) (tT cs W (.or ma mb)) := ⟨fun wh pins s σ H Q I q => (pw_or (ha.pt h1) (pw_or1 (hb.pt h2))).run wh pins s σ H Q I (or_t q)⟩
  ⟨rfl, pe_imp (pe_or ha.pe (pe_one hb.pe)) fun σ H Q h => or_v h, fun _ => w.pt, fun _ => w⟩
theorem snd_or (ha : Snd X cs W ma a) (hb : Snd X cs W mb (.BoolOp .Or (b :: rest) pos)) (h1 : isIf a = false) : Snd X cs W (.or ma mb) (.BoolOp .Or (a :: b :: rest) pos) :=
  have w : PW X (.BoolOp .Or (a :: b :: rest) pos) (tT cs W (.or ma mb)) := ⟨fun wh pins s σ H Q I q => (pw_or (ha.pt h1) (hb.pw rfl)).run wh pins s σ H Q I (or_t q)⟩
  ⟨rfl, pe_imp (pe_or ha.pe hb.pe) fun σ H Q h => or_v h, fun _ => w.pt, fun _ => w⟩
theorem snd_not (ha : Snd X cs W ma a) (h1 : isIf a = false) : Snd X cs W (.not ma) (.UnaryOp .Not a pos) where
  pl := rfl
  pw := fun h => by cases h
  pe := pe_imp (pe_not ha.pe) fun σ H Q h => by
    obtain ⟨e, P, F, S, q⟩ := h
    rw [evalE] at q
    exact ⟨e, P, F, S, (PB.boo (PB.bindI q)).mono fun v H' ⟨k, ev, e', P', F', S', q'⟩ => ⟨k, ev, q'.val (d := .bl (!k)) S' (fun _ => Nat.le_refl _) ⟨rfl, rfl⟩⟩⟩
  pt := fun _ => pt_imp (pt_not (ha.pt h1)) fun σ H Q h => by
    obtain ⟨e, P, F, S, q⟩ := h
    rw [evalE, tst_bind] at q
    exact ⟨e, P, F, S, (PB.tst (PB.bindB q)).mono fun k H' ⟨e', P', F', S', q'⟩ => q' H' P' F' S' (.refl _ _ _)⟩
theorem snd_ite (hc : Snd X cs W mc c) (ha : Snd X cs W ma a) (hb : Snd X cs W mb b) (h1 : isIf c = false) : Snd X cs W (.ite mc ma mb) (.IfExp c a b pos) where
  pl := rfl
  pw := fun h => by cases h
  pt := fun h => by cases h
  pe := pe_imp (pe_ifExp (hc.pt h1) ha.pe hb.pe) fun σ H Q h => by
    obtain ⟨e, P, F, S, q⟩ := h
    rw [evalE] at q
    refine ⟨e, P, F, S, (PB.bindI q).mono fun k H' ⟨e', P', F', S', q'⟩ => ?_⟩
    cases k with
    | true => exact ⟨e', P', F', S', q'⟩
    | false => exact ⟨e', P', F', S', q'⟩
/-! ### a < b < c -/
theorem Ns.drop {σ : L2.St} {H : Hp} {Q : VK} {v w u : V} {f : VI.X → VI.X → Env → R VI.X} (n : Ns W σ [v, w, u] H (g3 fun _ y z e => f y z e) Q) : Ns W σ [w, u] H (g2 f) Q := by
  obtain ⟨x, y, z, e, P, F, f1, f2, f3, S, rx, ry, rz, fr, q⟩ := n.thr
  refine ⟨[y, z], e, P, F, fa f2 f3, S, ⟨w, [u], f2, f3, rfl, ry, ⟨u, [], f3, fz, rfl, rz, ⟨rfl, rfl⟩, (fa_z _).symm⟩, rfl⟩, fr.mono fun a => by simp, ?_⟩
  exact PX.from ((Stp.refl H P _).mono (fun _ => Nat.le_refl _) fun a => by simp) q
/-- behind x < y that is so -/
def chG (cs : CS) (p : Cm) (c : E) (more : VI.X → VI.X → Env → R VI.X) : VI.X → VI.X → Env → R VI.X := fun _ y e => (evalE cs c e).bind fun w e4 => more y w e4
theorem ch_link {o : Cm} {K : PySem.W.Frag} {σ : L2.St} {H : Hp} {Q : VK} {v w : V} {more : VI.X → VI.X → Env → R VI.X} (n : Ns W σ [v, w] H (g2 fun x y e2 => (cmpX o x y e2).bind fun z e3 => match z with
    | .tmp (.bl true) _ => (evalE cs mc e3).bind fun w e4 => more y w e4
    | .tmp (.bl false) _ => .ok (im (.bl false)) e3
    | _ => .stk) Q) : ∃ c, (∀ Q' : VK, Q' (.bl c) H → rCm K o v w H Q') ∧ (c = true → tI cs W mc σ H fun u H2 => Ns W σ [w, u] H2 (g2 more) Q) ∧ (c = false → Q (.bl false) H) := by
  obtain ⟨x, y, e, P, F, f, g, S, rx, ry, fr, q⟩ := n.two
  replace q : PX W σ H P (fa (tot F) (fa f g)) ((cmpX o x y e).bind fun z e3 => match z with
    | .tmp (.bl true) _ => (evalE cs mc e3).bind fun w e4 => more y w e4
    | .tmp (.bl false) _ => .ok (im (.bl false)) e3
    | _ => .stk) Q := q
  obtain ⟨k, h1, h2⟩ := cmpX_ok (K := K) S rx ry q
  refine ⟨k, h1, fun hk => ?_, fun hk => ?_⟩
  · subst hk
    replace h2 : PX W σ H P (fa (tot F) (fa f g)) ((evalE cs mc e).bind fun w e4 => more y w e4) Q := h2
    have n2 : Ns W σ [v, w] H (fun xs e => match xs with | [x, y] => (evalE cs mc e).bind fun w e4 => more y w e4 | _ => .stk) Q :=
      ⟨[x, y], e, P, F, fa f g, S, ⟨v, [w], f, g, rfl, rx, ⟨w, [], g, fz, rfl, ry, ⟨rfl, rfl⟩, (fa_z _).symm⟩, rfl⟩, fr, h2⟩
    exact tI_mono (n2.next (G' := g3 fun _ y w e => more y w e) fun xs e hl => by
      match xs, hl with
      | [x, y], _ => rfl) fun u H2 n3 => n3.drop
  · subst hk
    exact (show PX W σ H P (fa (tot F) (fa f g)) (.ok (im (.bl false)) e) Q from h2).val (d := .bl false) S (fun a => fa_le a) ⟨rfl, rfl⟩
theorem snd_ch2 {o p : Cm} {k : Nat} (hr : Room k X.A) (ha : Snd X cs W ma a) (hb : Snd X cs W mb b) (hc : Snd X cs W mc c) : Snd X cs W (.ch2 o p ma mb mc) (.Compare a [cmC o, cmC p] [b, c] pos) := by
  have hu : X.A.units + 65 < cLine := by have := hr.un; omega
  have hm : lastMarks [cmC o, cmC p] [b, c] = false := plX_mark hc.pl _
  refine .cmp' (t := tChain (rCm X.K o) (rCm X.K p) (tI cs W ma) (tI cs W mb) (tI cs W mc)) (pe_chain (cm_all hu o) (cm_all hu p) ha.pe hb.pe hc.pe hm) (pt_chain (cm_all hu o) (cm_all hu p) ha.pe hb.pe hc.pe hm) (fun σ H Q h => ?_) fun σ H Q h => ?_
  · refine tI_mono (part2 h fun _ => by rw [evalE]) fun v H1 h1 => tI_mono h1 fun w H2 n => ?_
    obtain ⟨k, h1, h2, h3⟩ := ch_link (K := X.K) n
    refine h1 _ ⟨k, rfl, ?_⟩
    cases k with
    | true => exact tI_mono (h2 rfl) fun u H3 n => cmpX_end n
    | false => exact h3 rfl
  · refine tI_mono (part2 (tT.px (K := X.K) h) fun _ => by rw [evalE]) fun v H1 h1 => tI_mono h1 fun w H2 n => ?_
    obtain ⟨k, h1, h2, h3⟩ := ch_link (K := X.K) n
    refine h1 _ ⟨k, rfl, ?_⟩
    cases k with
    | true => exact tI_mono (h2 rfl) fun u H3 n => cmp_test n
    | false =>
      obtain ⟨k', z1, z2⟩ := h3 rfl
      exact ⟨k', by rw [show k' = false from z1], z2⟩
/-- three comparisons -/
def tChain3 (r r' r2 : R2) (ta tb tc td : TE) : TE := fun σ H Q => ta σ H fun x H1 => tb σ H1 fun y H2 => r x y H2 fun z H3 => ∃ k, z = .bl k ∧
  (if k = true then tc σ H3 fun w' H4 => r' y w' H4 fun z H5 => ∃ k, z = .bl k ∧ (if k = true then td σ H5 fun u H6 => r2 w' u H6 Q else Q (.bl false) H5) else Q (.bl false) H3)
theorem pe_chain3 {op op' op2 : CmpOp} {r r' r2 : R2} {ta tb tc td : TE} (ho : OpR X (compareOp op) r) (ho' : OpR X (compareOp op') r') (ho2 : OpR X (compareOp op2) r2) (ha : PE X a ta) (hb : PE X b tb) (hc : PE X c tc) (hd : PE X d td)
    (hm : lastMarks [op, op', op2] [b, c, d] = false) : PE X (.Compare a [op, op', op2] [b, c, d] pos) (tChain3 r r' r2 ta tb tc td) := by
  refine ⟨fun pins s σ H Q I h => ?_⟩
  refine Compare_chain (thn (ha.run pins s σ H _ I h) fun v s1 ⟨x, H1, I1, r1, q1⟩ => chain_link (thn (hb.run pins s1 σ H1 _ I1 q1) fun u s2 ⟨y, H2, I2, r2, q2⟩ =>
    thn (ho pins s2 σ H2 x y v u _ I2 r1 r2 q2) fun d s3 ⟨z, H3, I3, r3, k, e, q3⟩ => ?_)) hm
  subst e
  cases r3
  refine wpAny_truthy_bool ?_
  cases k with
  | false => exact ite_ff ⟨.bl false, H3, I3, rfl, q3⟩
  | true =>
    refine ite_tt (chain_link (thn (hc.run pins s3 σ H3 _ I3 q3) fun w' s4 ⟨z', H4, I4, r4, q4⟩ => thn (ho' pins s4 σ H4 y z' u w' _ I4 r2 r4 q4) fun d s5 ⟨z, H5, I5, r5, k, e, q5⟩ => ?_))
    subst e
    cases r5
    refine wpAny_truthy_bool ?_
    cases k with
    | false => exact ite_ff ⟨.bl false, H5, I5, rfl, q5⟩
    | true => exact ite_tt (chain_last (thn (hd.run pins s5 σ H5 _ I5 q5) fun u' s6 ⟨z2, H6, I6, r6, q6⟩ => ho2 pins s6 σ H6 z' z2 w' u' Q I6 r4 r6 q6))
theorem pt_chain3 {op op' op2 : CmpOp} {r r' r2 : R2} {ta tb tc td : TE} (ho : OpR X (compareOp op) r) (ho' : OpR X (compareOp op') r') (ho2 : OpR X (compareOp op2) r2) (ha : PE X a ta) (hb : PE X b tb) (hc : PE X c tc) (hd : PE X d td)
    (hm : lastMarks [op, op', op2] [b, c, d] = false) : PT X (.Compare a [op, op', op2] [b, c, d] pos) (tTest (tChain3 r r' r2 ta tb tc td)) := by
  refine ⟨fun pins s σ H Q I h => ?_⟩
  refine isTrue_chain (thn (ha.run pins s σ H _ I h) fun v s1 ⟨x, H1, I1, r1, q1⟩ => test_link (thn (hb.run pins s1 σ H1 _ I1 q1) fun u s2 ⟨y, H2, I2, r2, q2⟩ =>
    thn (ho pins s2 σ H2 x y v u _ I2 r1 r2 q2) fun d s3 ⟨z, H3, I3, r3, k, e, q3⟩ => ?_)) hm
  subst e
  cases r3
  refine wpAny_truthy_bool ?_
  cases k with
  | false =>
    obtain ⟨k', e', q'⟩ := q3
    cases e'
    exact ite_ff ⟨H3, I3, q'⟩
  | true =>
    refine ite_tt (test_link (thn (hc.run pins s3 σ H3 _ I3 q3) fun w' s4 ⟨z', H4, I4, r4, q4⟩ => thn (ho' pins s4 σ H4 y z' u w' _ I4 r2 r4 q4) fun d s5 ⟨z, H5, I5, r5, k, e, q5⟩ => ?_))
    subst e
    cases r5
    refine wpAny_truthy_bool ?_
    cases k with
    | false =>
      obtain ⟨k', e', q'⟩ := q5
      cases e'
      exact ite_ff ⟨H5, I5, q'⟩
    | true =>
      refine ite_tt (test_last (thn (hd.run pins s5 σ H5 _ I5 q5) fun u' s6 ⟨z2, H6, I6, r6, q6⟩ => thn (ho2 pins s6 σ H6 z' z2 w' u' _ I6 r4 r6 q6) fun d' s7 ⟨z2, H7, I7, r7, k2, e2, q7⟩ => ?_))
      subst e2
      cases r7
      exact wpAny_truthy_bool ⟨H7, I7, q7⟩
theorem snd_ch3 {o p p2 : Cm} {k : Nat} (hr : Room k X.A) (ha : Snd X cs W ma a) (hb : Snd X cs W mb b) (hc : Snd X cs W mc c) (hd : Snd X cs W md d) : Snd X cs W (.ch3 o p p2 ma mb mc md) (.Compare a [cmC o, cmC p, cmC p2] [b, c, d] pos) := by
  have hu : X.A.units + 65 < cLine := by have := hr.un; omega
  have hm : lastMarks [cmC o, cmC p, cmC p2] [b, c, d] = false := plX_mark hd.pl _
  refine .cmp' (t := tChain3 (rCm X.K o) (rCm X.K p) (rCm X.K p2) (tI cs W ma) (tI cs W mb) (tI cs W mc) (tI cs W md)) (pe_chain3 (cm_all hu o) (cm_all hu p) (cm_all hu p2) ha.pe hb.pe hc.pe hd.pe hm) (pt_chain3 (cm_all hu o) (cm_all hu p) (cm_all hu p2) ha.pe hb.pe hc.pe hd.pe hm) (fun σ H Q h => ?_) fun σ H Q h => ?_
  · refine tI_mono (part2 h fun _ => by rw [evalE]) fun v H1 h1 => tI_mono h1 fun w H2 n => ?_
    obtain ⟨k, h1, h2, h3⟩ := ch_link (K := X.K) (more := fun y w e4 => (cmpX p y w e4).bind fun z2 e5 => match z2 with
      | .tmp (.bl true) _ => (evalE cs md e5).bind fun u e6 => cmpX p2 w u e6
      | .tmp (.bl false) _ => .ok (im (.bl false)) e5
      | _ => .stk) n
    refine h1 _ ⟨k, rfl, ?_⟩
    cases k with
    | true =>
      refine tI_mono (h2 rfl) fun u H3 n => ?_
      obtain ⟨k, h1, h2, h3⟩ := ch_link (K := X.K) (more := cmpX p2) n
      refine h1 _ ⟨k, rfl, ?_⟩
      cases k with
      | true => exact tI_mono (h2 rfl) fun u H3 n => cmpX_end n
      | false => exact h3 rfl
    | false => exact h3 rfl
  · refine tI_mono (part2 (tT.px (K := X.K) h) fun _ => by rw [evalE]) fun v H1 h1 => tI_mono h1 fun w H2 n => ?_
    obtain ⟨k, h1, h2, h3⟩ := ch_link (K := X.K) (more := fun y w e4 => (cmpX p y w e4).bind fun z2 e5 => match z2 with
      | .tmp (.bl true) _ => (evalE cs md e5).bind fun u e6 => cmpX p2 w u e6
      | .tmp (.bl false) _ => .ok (im (.bl false)) e5
      | _ => .stk) n
    refine h1 _ ⟨k, rfl, ?_⟩
    cases k with
    | true =>
      refine tI_mono (h2 rfl) fun u H3 n => ?_
      obtain ⟨k, h1, h2, h3⟩ := ch_link (K := X.K) (more := cmpX p2) n
      refine h1 _ ⟨k, rfl, ?_⟩
      cases k with
      | true => exact tI_mono (h2 rfl) fun u H3 n => cmp_test n
      | false =>
        obtain ⟨k', z1, z2⟩ := h3 rfl
        exact ⟨k', by rw [show k' = false from z1], z2⟩
    | false =>
      obtain ⟨k', z1, z2⟩ := h3 rfl
      exact ⟨k', by rw [show k' = false from z1], z2⟩
end
end VI
namespace VI
open PySem PySem.Spec PyProof.Rows L2
section
variable {σ : L2.St} {e e1 e2 : Env} {H : Hp} {P P1 P2 : Addr → Prop} {F F1 F2 : List FP} {f f1 g g2 : FP}
theorem RepL.lower' {ds : List D} {xs : List V} {k l : Lv} (S : St0 σ e H P F) (q : RepL H P ds k xs f) (fr : Frm f H P (tot F)) (hl : l ≠ .top) (h : l = .full → k = .full) :
    ∃ P' f', St0 σ e H P' F ∧ RepL H P' ds l xs f' ∧ Frm f' H P' (tot F) ∧ Stp H P (fa (tot F) f) H P' (fa (tot F) f') := by
  cases l with
  | full =>
    rw [h rfl] at q
    exact ⟨P, f, S, q, fr, .refl _ _ _⟩
  | top => exact absurd rfl hl
  | sh =>
    have q' : RepL H (pAdd P f) ds .sh xs fz := RepL.shr (fun _ h => .inl h) (fun _ h => .inr h) q
    refine ⟨pAdd P f, fz, ⟨Rels.car ⟨fun _ _ _ h => h, fun _ _ _ h => h, fun _ _ h => h, fun _ h => .inl h⟩ S.rel, S.one, fun a z => ?_, fun a z => ?_, S.inT⟩, q', Frm.z, .share (fun a => by simp) fun a => by simp⟩
    · rcases z with z | z
      · exact S.sep a z
      · exact (fr a z).2.1
    · rcases z with z | z
      · exact S.inP a z
      · exact (fr a z).2.2.2
/-- items kept one behind another, then at one level -/
theorem join_ok {ds es : List D} {xs ys : List V} {k l m : Lv} (S1 : St0 σ e1 H P1 F1) (q1 : RepL H P1 ds k xs f1) (fr1 : Frm f1 H P1 (fa (tot F1) g)) (frg : Frm g H P1 (tot F1)) (S2 : St0 σ e2 H P2 F2) (q2 : RepL H P2 es l ys g2) (fr2 : Frm g2 H P2 (tot F2))
    (st2 : Stp H P1 (fa (tot F1) g) H P2 (fa (tot F2) g2)) (hm : m ≠ .top) (h : m = .full → k = .full ∧ l = .full) :
    ∃ P' f', St0 σ e2 H P' F2 ∧ RepL H P' (ds ++ es) m (xs ++ ys) f' ∧ Frm f' H P' (tot F2) ∧ Stp H P1 (fa (tot F1) (fa f1 g)) H P' (fa (tot F2) f') := by
  have frf := st2.frm fr1
  have q1' := RepL.car (st2.car fr1 fun c z => by
    have h1 := S1.sep c z
    have h2 : g c = 0 := Nat.eq_zero_of_not_pos fun q => (frg c q).2.2.1 z
    simp [h1, h2]) q1
  have frf1 : Frm f1 H P2 (tot F2) := frf.less fun c => by simp
  obtain ⟨P3, f3, S3, q3, fr3, st3⟩ := RepL.lower' S2 q1' frf1 hm fun z => (h z).1
  have frg2 : Frm g2 H P2 (fa (tot F2) f1) := fun c z => by
    obtain ⟨z1, z2, z3, z4⟩ := fr2 c z
    refine ⟨z1, ?_, z3, z4⟩
    have : f1 c = 0 := Nat.eq_zero_of_not_pos fun q => by
      have := (frf c q).2.1
      simp at this; omega
    simp [z2, this]
  have frg3 := st3.frm frg2
  have q2' := RepL.car (st3.car frg2 fun c z => by
    have h1 := S2.sep c z
    have h2 : f1 c = 0 := Nat.eq_zero_of_not_pos fun q => (frf1 c q).2.2.1 z
    simp [h1, h2]) q2
  obtain ⟨P4, g4, S4, q4, fr4, st4⟩ := RepL.lower' S3 q2' (frg3.less fun c => by simp) hm fun z => (h z).2
  have fr34 : Frm f3 H P3 (fa (tot F2) g2) := fun c z => by
    obtain ⟨z1, z2, z3, z4⟩ := fr3 c z
    refine ⟨z1, ?_, z3, z4⟩
    have : g2 c = 0 := Nat.eq_zero_of_not_pos fun q => by
      have := (frg3 c q).2.1
      simp at this; omega
    simp [z2, this]
  have q3' := RepL.car (st4.car fr34 fun c z => by
    have h1 := S3.sep c z
    have h2 : g2 c = 0 := Nat.eq_zero_of_not_pos fun q => (frg3 c q).2.2.1 z
    simp [h1, h2]) q3
  have fr4f := st4.frm fr34
  refine ⟨P4, fa f3 g4, S4, q3'.app q4, ?_, ?_⟩
  · exact Frm.join (fr4f.less fun c => by simp) (fun c z => by
      obtain ⟨z1, z2, z3, z4⟩ := fr4 c z
      refine ⟨z1, ?_, z3, z4⟩
      have : f3 c = 0 := Nat.eq_zero_of_not_pos fun q => by
        have := (fr4f c q).2.1
        simp at this; omega
      simp [z2, this])
  · have s2 : Stp H P1 (fa (tot F1) (fa f1 g)) H P2 (fa (fa (tot F2) g2) f1) := by
      have := st2.wide f1
      refine this.mono (fun c => by simp; omega) fun c => Nat.le_refl _
    have s3 : Stp H P2 (fa (fa (tot F2) g2) f1) H P3 (fa (fa (tot F2) f3) g2) := by
      have := st3.wide g2
      refine this.mono (fun c => by simp; omega) fun c => Nat.le_refl _
    have s4 : Stp H P3 (fa (fa (tot F2) f3) g2) H P4 (fa (tot F2) (fa f3 g4)) := by
      have := st4.wide f3
      refine this.mono (fun c => by simp; omega) fun c => by simp; omega
    exact (s2.trans s3).trans s4
theorem lall_ne (ps : List (D × Lv)) : lall ps ≠ .top := by
  cases ps with
  | nil => simp [lall]
  | cons p r => exact lmin_ne _ _
theorem use_stk {x : X} : (∃ p e1, use e x = .ok p e1) ∨ use e x = .stk := by
  unfold use
  split
  · exact .inl ⟨_, _, rfl⟩
  · split
    · split
      · exact .inl ⟨_, _, rfl⟩
      · exact .inl ⟨_, _, rfl⟩
    · exact .inr rfl
theorem uses_exc : ∀ {xs : List X} {e e' : Env} {c : Str}, uses xs e = .exc c e' → False
  | [], e, e', c, h => by cases h
  | x :: xs, e, e', c, h => by
    have h' : ((use e x).bind fun p e1 => (uses xs e1).bind fun ps e2 => R.ok (p :: ps) e2) = R.exc c e' := h
    rcases use_stk (e := e) (x := x) with ⟨p, e1, hu⟩ | hu
    · rw [hu] at h'
      replace h' : ((uses xs e1).bind fun ps e2 => R.ok (p :: ps) e2) = R.exc c e' := h'
      cases hs : uses xs e1 with
      | stk => rw [hs] at h'; cases h'
      | exc c' e2 => exact uses_exc hs
      | ok qs e2 => rw [hs] at h'; cases h'
    · rw [hu] at h'; cases h'
/-- a new dict without items -/
theorem PX.newK {W : WC} {Q : VK} {p : Addr} (S : St0 σ e H P F) (hp : H p = none) (h : PX W σ H P (tot F) (.ok (.tmp (.dK []) .full) e) Q) : Q (.ref p) (upd H p (.dK [])) := by
  refine h (.ref p) (upd H p (.dK [])) P F (fo p) (S.new _ hp) ⟨p, [], fz, rfl, ⟨rfl, rfl⟩, .inr ⟨by simp, upd_same, (fa_z _).symm⟩⟩ ?_ ?_
  · have := (Frm.z (H := H) (P := P) (T := tot F)).new S (.dK []) hp
    rwa [fa_z] at this
  · exact Stp.new (P := P) (.dK []) hp _
theorem uses_ok : ∀ {xs : List X} {e e' : Env} {P : Addr → Prop} {F : List FP} {f : FP} {vs : List V} {ps : List (D × Lv)}, St0 σ e H P F → RXs σ H P xs vs f → Frm f H P (tot F) → uses xs e = .ok ps e' →
    ∃ P' F' f', St0 σ e' H P' F' ∧ RepL H P' (ps.map (·.1)) (lall ps) vs f' ∧ Frm f' H P' (tot F') ∧ Stp H P (fa (tot F) f) H P' (fa (tot F') f')
  | [], e, e', P, F, f, vs, ps, S, rx, fr, h => by
    have h' : R.ok [] e = R.ok ps e' := h
    injection h' with h1 h2
    subst h1 h2
    obtain ⟨rfl, rfl⟩ := rx
    exact ⟨P, F, fz, S, ⟨rfl, rfl⟩, Frm.z, .refl _ _ _⟩
  | x :: xs, e, e', P, F, f, vs, ps, S, rx, fr, h => by
    obtain ⟨v, r, f1, f2, ev, rx1, rx2, ef⟩ := rx
    subst ev ef
    have h' : ((use e x).bind fun p e1 => (uses xs e1).bind fun ps e2 => R.ok (p :: ps) e2) = R.ok ps e' := h
    rcases use_stk (e := e) (x := x) with ⟨p, e1, hu⟩ | hu
    · obtain ⟨d, l⟩ := p
      rw [hu] at h'
      replace h' : ((uses xs e1).bind fun ps e2 => R.ok ((d, l) :: ps) e2) = R.ok ps e' := h'
      cases hs : uses xs e1 with
      | stk => rw [hs] at h'; cases h'
      | exc c e2 => rw [hs] at h'; cases h'
      | ok qs e2 =>
        rw [hs] at h'
        replace h' : R.ok ((d, l) :: qs) e2 = R.ok ps e' := h'
        injection h' with h1 h2
        subst h1 h2
        obtain ⟨P1, F1, g1, S1, q1, fr1, st1⟩ := use_ok S rx1 fr.fst hu
        have frg := st1.frm fr.right
        have rx2' := rx2.car (st1.car fr.right fun b z => by
          have := S.sep b z
          have h0 : f1 b = 0 := Nat.eq_zero_of_not_pos fun q => (fr.fst b q).2.2.1 z
          simp [this, h0])
        have frg' : Frm f2 H P1 (tot F1) := frg.less fun b => by simp
        obtain ⟨P2, F2, g2, S2, q2, fr2, st2⟩ := uses_ok S1 rx2' frg' hs
        have fr1' : Frm g1 H P1 (fa (tot F1) f2) := fun c z => by
          obtain ⟨z1, z2, z3, z4⟩ := fr1 c z
          refine ⟨z1, ?_, z3, z4⟩
          have : f2 c = 0 := Nat.eq_zero_of_not_pos fun q => by
            have := (frg c q).2.1
            simp at this; omega
          simp [z2, this]
        obtain ⟨P3, f3, S3, q3, fr3, st3⟩ := join_ok (m := lall ((d, l) :: qs)) S1 (RepL.one q1) fr1' frg' S2 q2 fr2 st2 (lall_ne _) (fun z => by
          have z' : lmin l (lall qs) = .full := z
          revert z'
          generalize lall qs = m
          cases l <;> cases m <;> simp [lmin])
        refine ⟨P3, F2, f3, S3, q3, fr3, ?_⟩
        have s1 : Stp H P (fa (tot F) (fa f1 f2)) H P1 (fa (tot F1) (fa g1 f2)) := by
          have := st1.wide f2
          rwa [fa_assoc, fa_assoc] at this
        exact s1.trans st3
    · rw [hu] at h'; cases h'
end
/-! ### lists of expressions -/
structure SndA (X : Cx) (cs : CS) (W : WC) (ms : Es) (es : List Expr) : Prop where
  pl : ∀ e ∈ es, plX e = true
  pa : PA X es (tAs cs W ms)
section
variable {X : Cx} {cs : CS} {W : WC} {m ma mb mc : E} {ms : Es} {e a b c : Expr} {es : List Expr} {pos p2 : Pos} {K : PySem.W.Frag}
theorem snd_nil : SndA X cs W .nil [] := ⟨fun _ h => (List.not_mem_nil h).elim, pa_imp pa_nil fun σ H Q h => by
  obtain ⟨e, P, F, S, q⟩ := h
  rw [evalEs] at q
  exact q [] H P F fz S ⟨rfl, rfl⟩ Frm.z (by rw [fa_z]; exact .refl _ _ _)⟩
theorem tAs_cons {σ : L2.St} {H : Hp} {Q : List V → Hp → Prop} (h : tAs cs W (.cons m ms) σ H Q) : tCons (tI cs W m) (tAs cs W ms) σ H Q := by
  obtain ⟨e, P, F, S, q⟩ := h
  rw [evalEs] at q
  refine ⟨e, P, F, S, ?_⟩
  cases ea : evalE cs m e with
  | stk => rw [ea] at q; exact q
  | exc c e1 => rw [ea] at q; exact q
  | ok x e1 =>
    rw [ea] at q
    replace q : PXs W σ H P (tot F) ((evalEs cs ms e1).bind fun xs e2 => .ok (x :: xs) e2) Q := q
    intro v H1 P1 F1 f S1 rx fr st
    refine ⟨e1, P1, F1, S1, ?_⟩
    cases eb : evalEs cs ms e1 with
    | stk => rw [eb] at q; exact q
    | exc c e2 =>
      rw [eb] at q
      exact fun H2 P2 F2 S2 st2 => q H2 P2 F2 S2 (st.trans (((st2.wide f).mono (fun _ => Nat.le_refl _) fun a => by simp)))
    | ok xs e2 =>
      rw [eb] at q
      intro vs H2 P2 F2 g S2 rxs frg st2
      have fr' := st2.frm fr
      refine q (v :: vs) H2 P2 F2 (fa f g) S2 ⟨v, vs, f, g, rfl, rx.car (st2.car fr fun a z => S1.sep a z), rxs, rfl⟩ ?_ ?_
      · rw [fa_comm]; exact frg.join fr'
      · refine st.trans ?_
        have := st2.wide f
        rw [fa_assoc, fa_comm g f] at this
        exact this
theorem snd_cons (h : Snd X cs W m e) (hs : SndA X cs W ms es) : SndA X cs W (.cons m ms) (e :: es) :=
  ⟨fun x hx => by
    rcases List.mem_cons.mp hx with rfl | hx
    · exact h.pl
    · exact hs.pl x hx, pa_imp (pa_cons h.pe hs.pa (plX_star h.pl _ _)) fun σ H Q h => tAs_cons h⟩
/-- no star among them -/
theorem plX_any : ∀ {es : List Expr}, (∀ e ∈ es, plX e = true) → ∀ (env : PySem.Env) (pos : Pos), (PySem.backTo pos (starEach es env)).any (·.1) = false
  | [], _, env, pos => rfl
  | e :: es, h, env, pos => by
    rw [plX_star (h e List.mem_cons_self)]
    show ((false || (PySem.backTo pos (starEach es env)).any (·.1))) = false
    rw [plX_any (fun x hx => h x (List.mem_cons_of_mem _ hx))]
    rfl
theorem snd_lst (hs : SndA X cs W ms es) : Snd X cs W (.lst ms) (.List es pos) :=
  .plain rfl rfl (pe_imp (pe_lst hs.pa) fun σ H Q h => by
    obtain ⟨e, P, F, S, q⟩ := h
    rw [evalE] at q
    refine ⟨e, P, F, S, ?_⟩
    cases ea : evalEs cs ms e with
    | stk => rw [ea] at q; exact q
    | exc c e1 => rw [ea] at q; exact q
    | ok xs e1 =>
      rw [ea] at q
      intro vs H1 P1 F1 f S1 rx fr st
      replace q : PX W σ H P (tot F) ((uses xs e1).bind fun ps e2 => if ps.length ≤ sizeLine then .ok (mkL (ps.map (·.1)) (lall ps)) e2 else .stk) Q := q
      cases eu : uses xs e1 with
      | stk => rw [eu] at q; exact q.elim
      | exc c e2 => exact (uses_exc eu).elim
      | ok ps e2 =>
        rw [eu] at q
        replace q : PX W σ H P (tot F) (if ps.length ≤ sizeLine then .ok (mkL (ps.map (·.1)) (lall ps)) e2 else .stk) Q := q
        obtain ⟨P2, F2, f2, S2, q2, fr2, st2⟩ := uses_ok S1 rx fr eu
        split at q
        · rename_i hz
          refine ⟨by have := q2.len; rw [List.length_map] at this; omega, fun p hp => ?_⟩
          exact PX.newL S2 q2 (lall_ne _) fr2 (fun _ => Nat.le_refl _) (q.from (st.trans st2)) hp
        · exact q.elim)
theorem snd_tup {k : Nat} (hs : SndA X cs W ms es) : Snd X cs W (.tup ms) (.Tuple es k pos) :=
  .plain rfl rfl (pe_imp (pe_tup hs.pa) fun σ H Q h => by
    obtain ⟨e, P, F, S, q⟩ := h
    rw [evalE] at q
    refine ⟨e, P, F, S, ?_⟩
    cases ea : evalEs cs ms e with
    | stk => rw [ea] at q; exact q
    | exc c e1 => rw [ea] at q; exact q
    | ok xs e1 =>
      rw [ea] at q
      intro vs H1 P1 F1 f S1 rx fr st
      replace q : PX W σ H P (tot F) ((uses xs e1).bind fun ps e2 => if ps.length ≤ sizeLine then .ok (mkT (ps.map (·.1)) (lall ps)) e2 else .stk) Q := q
      cases eu : uses xs e1 with
      | stk => rw [eu] at q; exact q.elim
      | exc c e2 => exact (uses_exc eu).elim
      | ok ps e2 =>
        rw [eu] at q
        replace q : PX W σ H P (tot F) (if ps.length ≤ sizeLine then .ok (mkT (ps.map (·.1)) (lall ps)) e2 else .stk) Q := q
        obtain ⟨P2, F2, f2, S2, q2, fr2, st2⟩ := uses_ok S1 rx fr eu
        split at q
        · rename_i hz
          refine ⟨by have := q2.len; rw [List.length_map] at this; omega, fun p hp => ?_⟩
          exact PX.newT S2 q2 (lall_ne _) fr2 (fun _ => Nat.le_refl _) (q.from (st.trans st2)) hp
        · exact q.elim)
theorem snd_dnewK : Snd X cs W .dnewK (.Dict [] [] pos) :=
  .plain rfl rfl (pe_imp pe_dnewK fun σ H Q h => by
    obtain ⟨e, P, F, S, q⟩ := h
    rw [evalE] at q
    exact fun p hp => PX.newK S hp q)
end
end VI
namespace VI
open PySem PySem.Spec PyProof.Rows L2
/-! ### set(xs) of a list, whatever the set is known by -/
/-- a set just made -/
abbrev bare (w : World) : Obj := { cls := .type "set", dict := none, data := .set #[] 0 (.fresh 0 0 (!w.params.followText "set-order")) }
/-- T i: the set at S has got the first i of the items -/
structure Gath (P : Program) (w : World) (A : Around) (E : Value → Shared → Prop) (h0 : Heap) (items : Array Value) (S : Addr) (T : Nat → Heap → Prop) : Prop where
  keep : ∀ i h h', (∀ o, h.get? S = some o → h'.get? S = some o) → (∀ b o, h0.get? b = some o → h'.get? b = some o) → T i h → T i h'
  add : ∀ i v (s : Shared), items[i]? = some v → (∀ b o, h0.get? b = some o → s.heap.get? b = some o) → T i s.heap →
    ∀ Q : Bool → Shared → Prop, (∀ r h' tk, Heap.SameBut S s.heap h' → s.toks ≤ tk → T (i + 1) h' → Q r { s with heap := h', toks := tk }) → wpAny (model P w) A (setAdd S v) Q E s
  gone : h0.get? S = none
section
variable {P : Program} {w : World} {A : Around} {E : Value → Shared → Prop}
/-- one item after another -/
theorem gath_loop {h0 : Heap} {items : Array Value} {S I : Addr} {T : Nat → Heap → Prop} {fp wr : List Addr} {G : Array GenState → Array GenState → Prop} {Pv : Nat → Value → Prop} {St : Nat → Shared → Prop} {R : Result → Shared → Prop}
    (g : ∀ E', Gath P w A.in1 E' h0 items S T) (W : WalksS P w A.in1 I fp wr G items.size Pv St) (hS : S ∉ fp) (hv : ∀ i v, Pv i v → items[i]? = some v) (hw : ∀ b ∈ wr, h0.get? b = none) :
    ∀ (k i : Nat) (s : Shared), items.size - i = k → i ≤ items.size → St i s → (∀ b o, h0.get? b = some o → s.heap.get? b = some o) → T i s.heap →
      (∀ s', Moved (S :: wr) G s s' → T items.size s'.heap → (∀ b o, h0.get? b = some o → s'.heap.get? b = some o) → R (.ok (.ret .none)) s') →
      codeAny (model P w) A (.builtin "set.update.loop" ⟨[.ref S, .ref I], []⟩) R s := by
  have out : S ∉ wr := fun z => hS (W.sub _ z)
  have more : ∀ b ∈ wr, b ∈ S :: wr := fun _ z => .tail _ z
  have still : ∀ {s s' : Shared}, Moved wr G s s' → (∀ b o, h0.get? b = some o → s.heap.get? b = some o) → ∀ b o, h0.get? b = some o → s'.heap.get? b = some o := fun m hk b o e =>
    m.heap b o (fun z => by have := hw b z; rw [this] at e; cases e) (hk b o e)
  intro k
  induction k with
  | zero =>
    intro i s e hi hst hk ht hR
    obtain rfl : i = items.size := by omega
    refine codeAny_builtin F.entry_set_update_loop ?_
    rw [Around.under_plainId F.plain_set_update_loop _]
    show wpAny _ A.in1 (pyNext (.ref I) >>= _) _ _ s
    refine wpAny_bind (W.done s _ _ hst fun s' m => ?_)
    show wpAny _ A.in1 (ret Value.none) _ _ s'
    have hk' := still m hk
    exact wpAny_pure (hR s' (m.mono more) ((g fun _ _ => False).keep _ _ _ (fun o e => m.heap S o out e) hk' ht) hk')
  | succ k ih =>
    intro i s e hi hst hk ht hR
    have lt : i < items.size := by omega
    refine codeAny_builtin F.entry_set_update_loop ?_
    rw [Around.under_plainId F.plain_set_update_loop _]
    show wpAny _ A.in1 (pyNext (.ref I) >>= _) _ _ s
    refine wpAny_bind (W.item i s _ _ lt hst fun v s' hP hst' m => ?_)
    have hk' := still m hk
    have ht' := (g fun _ _ => False).keep _ _ _ (fun o e => m.heap S o out e) hk' ht
    show wpAny _ A.in1 (holding [v] (setAdd S v) >>= _) _ _ s'
    refine wpAny_bind (wpAny_holding ((g _).add i v s' (hv i v hP) hk' ht' _ fun r h' tk sb le ht2 => ?_))
    have hk2 : ∀ b o, h0.get? b = some o → h'.get? b = some o := fun b o e => (sb.2 b fun z => by rw [z, (g fun _ _ => False).gone] at e; cases e).trans (hk' b o e)
    refine wpAny_pure ⟨plainId_quiet F.plain_set_update_loop _, ih (i + 1) _ (by omega) lt (W.frame _ s' _ _ hst' le fun b hb o e => ?_) hk2 ht2 fun s2 m2 t2 k2 => ?_⟩
    · rw [sb.2 b fun z => hS (z ▸ hb)]; exact e
    · refine hR s2 (Moved.trans W.gtrans ((m.mono more).then_heap le fun b o hb e => ?_) m2) t2 k2
      rw [sb.2 b fun z => hb (z ▸ List.mem_cons_self)]; exact e
/-- set(xs) -/
theorem call_set_of {s : Shared} {l : Addr} {items : Array Value} {T : Nat → Heap → Prop} {Q : Value → Shared → Prop} (hh : A.handled = none) (hl : s.heap.IsList l items) (g : ∀ E', Gath P w A.in1.in1.in1 E' s.heap items s.heap.objs.size T)
    (t0 : ∀ h : Heap, h.get? s.heap.objs.size = some (bare w) → (∀ b o, s.heap.get? b = some o → h.get? b = some o) → T 0 h)
    (hQ : ∀ (h' : Heap) (tk : Nat), T items.size h' → (∀ b o, s.heap.get? b = some o → h'.get? b = some o) → Q (.ref s.heap.objs.size) { s with heap := h', toks := tk }) :
    wpAny (model P w) A (call (.type "set") [.ref l]) Q E s := by
  obtain ⟨c, tl, hmro⟩ := F.called_set.mro
  have made := F.called_set.made
  have sub := F.called_set.sub
  refine wpAny_call (codeAny_of_tree ?_)
  show wpAny _ _ (callAny (.type "set") _) _ _ _
  refine wpAny_pure ⟨Code.quiet_builtin _ (by decide +kernel), codeAny_builtin F.entry_type_call ?_⟩
  rw [Around.under_plain (weight_type_call_type "set" [.ref l] []) rfl]
  have n1 := F.called_set.notType
  have n2 := F.called_set.canCreate
  have n3 := F.typeCall_set_1 (.ref l)
  repeat (any_goals (first | assumption | wp_step))
  refine codeAny_mono (code_set_led1 (.ref l) (E := E) (Q₁ := fun v s1 => v = .ref s.heap.objs.size ∧ s1 = { s with heap := s.heap.push (bare w) }) ⟨rfl, rfl⟩) fun r s1 hr => ?_
  cases r with
  | error e => exact hr
  | ok fl =>
    cases fl with
    | ret obj =>
      obtain ⟨rfl, rfl⟩ := hr
      have gS : (s.heap.push (bare w)).get? s.heap.objs.size = some (bare w) := Heap.get?_push_size _ rfl
      have tS : Shared.TypeIs { s with heap := s.heap.push (bare w) } (.ref s.heap.objs.size) "set" := ⟨_, gS, rfl⟩
      have i1 := F.called_set.init.lookup
      have i2 := F.called_set.init.bind (.ref s.heap.objs.size)
      repeat (any_goals (first | assumption | wp_step))
      refine codeAny_mono (codeAny_call_builtin (R := wants (fun r s2 => r = .none ∧ ∃ h' tk, s2 = { s with heap := h', toks := tk } ∧ T items.size h' ∧
          ∀ b o, s.heap.get? b = some o → h'.get? b = some o) E) F.called_set.init.plain F.entry_set_init (check_set_init_1 tS ?_)) fun r2 s2 hr2 => ?_
      · obtain ⟨⟨lc, ldi, ld, ls⟩, hol, hcl, nl, hdl⟩ := hl
        simp only at hcl hdl
        subst hcl hdl
        have hol2 : (s.heap.push (bare w)).get? l = some { cls := .type "list", dict := ldi, data := .seq items nl, slots := ls } := Heap.get?_push_of_some _ hol
        have q1 := F.sub_list_set
        have q2 := F.sub_list_frozenset
        have q3 : (Value.type "list" == Value.type "dict") = false := by decide
        have hl2 : (s.heap.push (bare w)).IsList l items := ⟨_, hol2, rfl, nl, rfl⟩
        unfold Builtin.«set.__init__» noKeywords Builtin.Frozenset.updateFrom
        generalize hPI : pyIter = PI
        wp_walk
        subst hPI
        refine wpAny_pyIter_list hl2 (wpAny_bind (wpAny_runValue ?_))
        have lt : l < s.heap.objs.size := Heap.lt_size hol
        have hh3 : A.in1.in1.in1.handled = none := by simp [hh]
        have sz : (s.heap.push (bare w)).objs.size = s.heap.objs.size + 1 := Heap.size_push ..
        have ne1 : l ≠ (s.heap.push (bare w)).objs.size := by
          rw [sz]; exact Nat.ne_of_lt (Nat.lt_succ_of_lt lt)
        have ne2 : s.heap.objs.size ∉ [(s.heap.push (bare w)).objs.size, l] := fun z => by
          rcases List.mem_cons.mp z with z | z
          · rw [sz] at z; exact Nat.ne_of_lt (Nat.lt_succ_self _) z
          · exact Nat.ne_of_gt lt (List.mem_singleton.mp z)
        have none_of : ∀ b, s.heap.objs.size ≤ b → s.heap.get? b = none := fun b hb => by
          cases q : s.heap.get? b with
          | none => rfl
          | some o => exact absurd (Nat.lt_of_lt_of_le (Heap.lt_size q) hb) (Nat.lt_irrefl _)
        refine gath_loop g ((Walks.list hh3 _ l ne1 items).toS) ne2 (fun i v h => h) (fun b hb => none_of b (by rw [List.mem_singleton.mp hb, sz]; exact Nat.le_succ _)) (items.size - 0) 0 _ (by omega) (Nat.zero_le _) ⟨⟨_, Heap.get?_push_size _ rfl, rfl, rfl⟩, hl2.push _⟩
          (fun b o e => Heap.get?_push_of_some _ (Heap.get?_push_of_some _ e)) (t0 _ (Heap.get?_push_of_some _ gS) fun b o e => Heap.get?_push_of_some _ (Heap.get?_push_of_some _ e)) fun s' m t k => ?_
        · obtain ⟨h', g2, d', tk', os'⟩ := s'
          obtain rfl : g2 = s.gens := m.gens
          obtain rfl : d' = s.drawn := m.drawn
          obtain rfl : os' = s.os := m.os
          show wpAny _ _ _ _ _ _
          refine wpAny_pure ?_
          show wpAny _ _ (ret Value.none) _ _ _
          exact wpAny_pure ⟨rfl, h', tk', rfl, t, k⟩
      · cases r2 with
        | error e => exact hr2
        | ok fl2 =>
          cases fl2 with
          | ret r =>
            obtain ⟨rfl, h', tk, rfl, t, k⟩ := hr2
            repeat (any_goals (first | assumption | wp_step))
            exact hQ _ _ t k
          | _ => exact hr2.elim
    | _ => exact hr.elim
end
end VI
namespace VI
open PySem PySem.Spec PyProof.Rows L2
/-! ### sets of ints, of tuples of ints -/
def rSetI (K : PySem.W.Frag) (w : World) : List V → Hp → VK → Prop := fun xs H Q => ∃ l ns, xs = [.ref l] ∧ SqL K H l (ns.map V.int) ∧ ns.length ≤ 4000 ∧ ∀ a, H a = none → Q (.ref a) (upd H a (SetO w a (fun j => decide (j ∈ ns)) (onceB [] ns).length))
/-- few different ones -/
def Few (ks : List (Addr × List Int)) : Prop := ∀ L : List (Addr × List Int), (L.map (·.2)).Nodup → (∀ p ∈ L, p ∈ ks) → L.length + 1 < 64
def rSetT (K : PySem.W.Frag) (P : Program) (w : World) : List V → Hp → VK → Prop := fun xs H Q => ∃ (l : Addr) (ks : List (Addr × List Int)), xs = [.ref l] ∧ SqL K H l (ks.map fun p => V.ref p.1) ∧ (∀ p ∈ ks, SqT K H p.1 (p.2.map V.int)) ∧ Few ks ∧
  ∀ a L, H a = none → (∀ p ∈ L, p ∈ ks) → (∀ p ∈ ks, p.2 ∈ L.map (·.2)) → (L.map (·.2)).Nodup → Q (.ref a) (upd H a (SetTO P w a L))
section
variable {Y : Cx}
theorem cr_setI (hc : Y.calm = true) : CallR Y (.type "set") (rSetI Y.K Y.w) := by
  intro pins s σ H xs us Q I r h
  obtain ⟨l, ns, rfl, hs, hz, q⟩ := h
  obtain ⟨u, rfl, ru⟩ := vals1 r
  cases ru
  obtain ⟨its, rv, pl, _⟩ := I.list hs
  have hi := rv.ints
  have hl : its.length = ns.length := by rw [← rv.length, List.length_map]
  have hn : H s.heap.objs.size = none := I.hok.fresh (Nat.le_refl _)
  refine call_set_of (I.ok.hd hc) pl.isList (T := fun i h => ∃ c, c ≤ i ∧ SetR Y.w h s.heap.objs.size (fun j => decide (j ∈ ns.take i)) c) (fun E' => ⟨?_, ?_, ?_⟩) ?_ ?_
  · rintro i h h' k1 _ ⟨c, hc', R⟩
    exact ⟨c, hc', R.at k1⟩
  · rintro i v s' hv hk ⟨c, hc', R⟩ Q' hQ'
    have hi' : i < ns.length := by
      rw [← hl]
      have := (Array.getElem?_eq_some_iff.mp hv).1
      simpa using this
    obtain ⟨t, e⟩ := PyProof.Rows.IntsAre.int_at hi i v (by simpa using hv)
    have hz' : ns[i]? = some (ns.getD i 0) := by rw [List.getD_eq_getElem?_getD, List.getElem?_eq_getElem hi']; rfl
    generalize ns.getD i 0 = z at e hz'
    subst e
    unfold setAdd
    refine wpAny_holding (wpAny_bind ((intKind Y.prog Y.w).pyHash (k := z) (intKind_is _ _ _ _) ?_))
    refine setR_add_hashed (s := { s' with toks := s'.toks + 1 }) R (by unfold scanBound; omega) fun h' sb R2 => ?_
    refine hQ' _ h' _ sb (Nat.le_succ _) ⟨_, ?_, R2.congr fun j => ?_⟩
    · split <;> omega
    · rw [List.take_add_one, hz']
      simp [List.mem_append]
  · cases q2 : s.heap.get? s.heap.objs.size with
    | none => rfl
    | some o => exact absurd (Heap.lt_size q2) (Nat.lt_irrefl _)
  · intro h hb _
    exact ⟨0, Nat.le_refl 0, setR_new_at hb⟩
  · rintro h' tk ⟨c, hc', R⟩ hk
    have hsz : its.toArray.size = ns.length := by rw [List.size_toArray, hl]
    rw [hsz, List.take_length] at R
    have ec : c = (onceB [] ns).length := by
      obtain ⟨o, es, ep, t, ho, hex, hd, g, nd, hm, hb, hf, hn, hr, hlw⟩ := R
      have pm : (es.toList.map keyOf).Perm (onceB [] ns) := (List.perm_ext_iff_of_nodup nd (onceB_nd List.nodup_nil)).mpr fun k => by
        rw [← hm k, onceB_mem]; simp
      rw [← pm.length_eq, List.length_map, Array.length_toList, hn]
    rw [ec] at R
    exact ⟨.ref _, upd H s.heap.objs.size (SetO Y.w s.heap.objs.size (fun j => decide (j ∈ ns)) (onceB [] ns).length), I.laid (t' := tk) hk (Nat.le_refl _) (setO_new R), rfl, q _ hn⟩
theorem cr_setT (hc : Y.calm = true) (hu : Y.A.units + 64 < cLine) : CallR Y (.type "set") (rSetT Y.K Y.prog Y.w) := by
  intro pins s σ H xs us Q I r h
  obtain ⟨l, ks, rfl, hs, ht, few, q⟩ := h
  obtain ⟨u, rfl, ru⟩ := vals1 r
  cases ru
  obtain ⟨its, rv, pl, _⟩ := I.list hs
  have hn : H s.heap.objs.size = none := I.hok.fresh (Nat.le_refl _)
  have hg : s.heap.get? s.heap.objs.size = none := by
    cases q2 : s.heap.get? s.heap.objs.size with
    | none => rfl
    | some o => exact absurd (Heap.lt_size q2) (Nat.lt_irrefl _)
  have ei : its = ks.map fun p => Value.ref p.1 := refs_of_vals rv
  have tup : ∀ p ∈ ks, IsT Y.prog Y.w s.heap p.2 p.1 := fun p hp => I.isT (ht p hp)
  refine call_set_of (I.ok.hd hc) pl.isList (T := fun i h => (∀ b o, s.heap.get? b = some o → h.get? b = some o) ∧ ∃ L es ep t, SetTR Y.prog Y.w h s.heap.objs.size L es ep t ∧ Got ks i L) (fun E' => ⟨?_, ?_, hg⟩) ?_ ?_
  · rintro i h h' k1 k2 ⟨_, L, es, ep, t, R, g⟩
    exact ⟨k2, L, es, ep, t, R.keep k1 fun p hp => isT_keep (tup p (List.mem_of_mem_take (g.sub p hp))) k2, g⟩
  · rintro i v s' hv hk ⟨_, L, es, ep, t, R, g⟩ Q' hQ'
    have hv' : its[i]? = some v := by simpa using hv
    rw [ei, List.getElem?_map] at hv'
    obtain ⟨p, hp, rfl⟩ := Option.map_eq_some_iff.mp hv'
    have hx : IsT Y.prog Y.w s'.heap p.2 p.1 := isT_keep (tup p (List.mem_of_getElem? hp)) hk
    have hu3 : Y.A.in1.in1.in1.units < cLine := by
      show Y.A.units + 1 + 1 + 1 < cLine
      omega
    unfold setAdd
    refine wpAny_holding (wpAny_bind (wpAny_pyHash_tuple hu3 hx ?_))
    refine add_at (s := { s' with toks := s'.toks + (p.2.length + 1) }) R hx hu3 (few L R.nd fun p hp => List.mem_of_mem_take (g.sub p hp)) fun b h' L' es' ep' t' sb R2 c1 c2 => ?_
    refine hQ' _ h' _ sb (Nat.le_add_right _ _) ⟨fun b o e => (sb.2 b fun z => by rw [z, hg] at e; cases e).trans (hk b o e), L', es', ep', t', R2, ?_⟩
    rcases Classical.em (p.2 ∈ L.map (·.2)) with c | c
    · rw [c1 c]; exact g.same hp c
    · exact g.more hp (c2 c)
  · intro h hb hk
    exact ⟨hk, [], #[], 0, _, setTR_fresh hb, Got.zero ks⟩
  · rintro h' tk ⟨_, L, es, ep, t, R, g⟩ hk
    have hsz : its.toArray.size = ks.length := by rw [ei]; simp
    rw [hsz] at g
    refine ⟨.ref _, upd H s.heap.objs.size (SetTO Y.prog Y.w s.heap.objs.size L), I.laid (t' := tk) hk (Nat.le_refl _) (setTO_new R.t0), rfl, q _ L hn (fun p hp => ?_) (fun p hp => ?_) R.nd⟩
    · exact List.mem_of_mem_take (g.sub p hp)
    · exact g.all p (by rw [List.take_length]; exact hp)
theorem each_of_mem {α β : Type} {R : α → β → Prop} {f : β → α} : ∀ {bs : List β}, (∀ b ∈ bs, R (f b) b) → W.EachIs R (bs.map f) bs
  | [], _ => .nil
  | b :: bs, h => .cons (h b List.mem_cons_self) (each_of_mem fun c hc => h c (List.mem_cons_of_mem _ hc))
theorem perm_of_map {α β : Type} {f : β → α} {l m : List α} (h : l.Perm m) : ∀ L : List β, m = L.map f → ∃ L' : List β, l = L'.map f ∧ L'.Perm L := by
  induction h with
  | nil =>
    intro L e
    cases L with
    | nil => exact ⟨[], rfl, .nil⟩
    | cons _ _ => cases e
  | cons x _ ih =>
    intro L e
    cases L with
    | nil => cases e
    | cons b L =>
      rw [List.map_cons] at e
      injection e with e1 e2
      obtain ⟨L', e3, e4⟩ := ih L e2
      exact ⟨b :: L', by rw [List.map_cons, e1, e3], e4.cons b⟩
  | swap x y t =>
    intro L e
    match L, e with
    | b :: c :: L, e =>
      rw [List.map_cons, List.map_cons] at e
      injection e with e1 e2
      injection e2 with e2 e3
      exact ⟨c :: b :: L, by rw [List.map_cons, List.map_cons, e1, e2, e3], .swap b c L⟩
  | trans _ _ ih1 ih2 =>
    intro L e
    obtain ⟨L1, e1, p1⟩ := ih2 L e
    obtain ⟨L2, e2, p2⟩ := ih1 L1 e1
    exact ⟨L2, e2, p2.trans p1⟩
theorem dpAll_ints {K : PySem.W.Frag} {H : Hp} : ∀ ns : List Int, DpAll K H (ns.map V.int) (pyL (ns.map D.int))
  | [] => .nil
  | n :: ns => .cons (.int n) (dpAll_ints ns)
def rowT (k : List Int) : D := .tup (k.map D.int)
def leT (a b : Addr × List Int) : Bool := !ltI b.2 a.2
def rSortS (K : PySem.W.Frag) (P : Program) (w : World) : List V → Hp → VK → Prop := fun vs H Q => ∃ (a : Addr) (L : List (Addr × List Int)), vs = [V.ref a] ∧ H a = some (SetTO P w a L) ∧ (∀ p ∈ L, SqT K H p.1 (p.2.map V.int)) ∧ (∀ p ∈ L, p.2 ≠ []) ∧
  ∀ (L' : List (Addr × List Int)) (p : Addr), L'.Perm L → H p = none → Q (.ref p) (upd H p (.lst ((insort leT L').map fun q => V.ref q.1)))
theorem cr_sortS (hc : Y.calm = true) (hu : Y.A.units + 64 < cLine) : CallR Y (.builtin "sorted") (rSortS Y.K Y.prog Y.w) := by
  intro pins s σ H xs us Q I r h
  obtain ⟨a, L, rfl, ha, ht, hne, q⟩ := h
  obtain ⟨u, rfl, ru⟩ := vals1 r
  cases ru
  have R0 : SetT0 Y.prog Y.w s.heap a L := (I.hok a _ ha).1
  obtain ⟨es, ep, t, R⟩ := R0.full fun p hp => I.isT (ht p hp)
  obtain ⟨o, ho, hex, hd⟩ := R.ob
  have hsz := R.size
  have hfew := R.few
  have hes : es.toList.map (·.2) = L.map fun q => Value.ref q.1 := by
    rw [R.rows]
    unfold rowsOf
    rw [List.map_map]; rfl
  have of1 : ∀ bs : List (Addr × List Int), bs.Perm L → Of1 (.tup .int) (bs.map fun b => rowT b.2) := fun bs pm => by
    refine ⟨fun d hd => ?_, fun d hd => ?_, by decide⟩
    · obtain ⟨b, _, rfl⟩ := List.mem_map.mp hd
      exact (by simp [rowT, hasK, hasKs_ints] : hasK (.tup .int) (rowT b.2) = true)
    · obtain ⟨b, hb, rfl⟩ := List.mem_map.mp hd
      have := hne b (pm.mem_iff.mp hb)
      cases e : b.2 with
      | nil => exact absurd e this
      | cons x r => rfl
  have eqle : ∀ bs : List (Addr × List Int), insort (fun a b : Addr × List Int => leK (.tup .int) false (rowT a.2) (rowT b.2)) bs = insort leT bs := fun bs => insort_congr fun x _ y _ => by
    show (!ltKs .int (y.2.map .int) (x.2.map .int)) = !ltI y.2 x.2
    rw [ltKs_ints]
  refine sorted_gather (R := fun u (b : Addr × List Int) => u = Value.ref b.1) (g := fun b : Addr × List Int => rowT b.2) (k := .tup .int) (Pv := fun ws bs => ws = bs.map (fun b => Value.ref b.1) ∧ bs.Perm L) (fun Q' hq => ?_) ?_ (by omega) ?_
  · refine collect_set (A := Y.A.in1) (I.ok.hd hc) ⟨o, ho, hex.1, hd⟩ R.fits (by unfold scanBound; omega) R.tab.ris R.led fun s1 out k1 hz g1 o1 pm => ?_
    rw [hes] at pm
    obtain ⟨L', e1, p1⟩ := perm_of_map pm L rfl
    exact hq s1 out L' ⟨e1, p1⟩ k1 hz g1 o1
  · rintro ws bs ⟨rfl, pm⟩
    refine ⟨each_of_mem fun b _ => rfl, of1 bs pm, by rw [pm.length_eq, sizeLine_eq]; omega, fun h' hk => each_of_mem fun b hb => ?_⟩
    obtain ⟨as, q1⟩ := Dp.reads I (py (rowT b.2)) (.ref b.1) (.ref b.1) (.tup (ht b (pm.mem_iff.mp hb)) (dpAll_ints b.2)) rfl
    have hk1 : hasK (.tup .int) (rowT b.2) = true := by simp [rowT, hasK, hasKs_ints]
    exact ⟨as, PyProof.Rows.Reads.keeps hk q1, reads_in _ _ _ (alikeK hk1 hk1) q1⟩
  · rintro s' p out c ws bs ⟨rfl, pm⟩ k1 g1 o1 hp hg eo
    rw [eqle] at eo
    have hn : H p = none := I.hok.fresh hp
    have hv : Vals ((insort leT bs).map fun q => V.ref q.1) out := vals_of_each (g := fun q : Addr × List Int => V.ref q.1) (eo.mono fun u b e => by rw [e]; rfl)
    have hlen : ((insort leT bs).map fun q => V.ref q.1).length ≤ sizeLine := by
      rw [List.length_map, (insort_perm _).length_eq, pm.length_eq, sizeLine_eq]; omega
    have J : Inv Y pins σ (upd H p (.lst ((insort leT bs).map fun q => V.ref q.1))) { s with heap := s'.heap, gens := s'.gens, drawn := s'.drawn, toks := s'.toks } :=
      I.call (ch := []) (Un.laid k1 hp hn) (I.hok.laid k1 hp ⟨hlen, out, c, hv, hg⟩) (by rw [g1]; exact I.bare) (fun _ z => nomatch z)
    rw [shared_eq o1]
    exact ⟨.ref p, _, J, rfl, q bs p pm hn⟩
/-- len of a set of ints -/
theorem cr_lenSet : CallR Y (.builtin "len") (fun vs H Q => ∃ (a : Addr) (S : Int → Bool) (n : Nat), vs = [V.ref a] ∧ H a = some (SetO Y.w a S n) ∧ Q (.int n) H) := by
  intro pins s σ H xs us Q I r h
  obtain ⟨a, S, n, rfl, ha, q⟩ := h
  obtain ⟨u, rfl, ru⟩ := vals1 r
  cases ru
  obtain ⟨o, es, ep, t, ho, hex, hd, g, nd, hm, hb, hf, hn, hr, hl⟩ := setO_get I ha
  have hb' : es.size < 4096 := hb
  refine call_len_set ho hex hd hf (by omega) ⟨.int es.size, H, I.kept (t' := s.toks + 1 + 1) fun b o e => e, ⟨_, rfl⟩, ?_⟩
  rw [hn]; exact q
end
/-! in plain words -/
theorem leR_total : W.TotalLe leR := by
  have T := W.sortLe_total (listOrd itemOrd) false fun b : List Int => W.keyToks (py (rowT b))
  have e : W.sortLe (listOrd itemOrd) false (fun b : List Int => W.keyToks (py (rowT b))) = leR := by
    funext a b
    have h1 : hasK (.tup .int) (rowT a) = true := by simp [rowT, hasK, hasKs_ints]
    have h2 : hasK (.tup .int) (rowT b) = true := by simp [rowT, hasK, hasKs_ints]
    show (!W.dataLt (py (rowT b)) (py (rowT a))) = _
    rw [dltK h2 h1]
    show (!ltKs .int (b.map .int) (a.map .int)) = _
    rw [ltKs_ints]; rfl
  rw [← e]; exact T
theorem insort_pw {α : Type} {le : α → α → Bool} (T : W.TotalLe le) (l : List α) : (insort le l).Pairwise (fun a b => le a b = true) := by
  have to : ∀ a b : α, (le a b || le b a) = true := fun a b => by rw [Bool.or_eq_true]; exact T.total a b
  rw [insort_merge T.trans to]
  exact List.pairwise_mergeSort T.trans to _
theorem nodup_le {α : Type} [DecidableEq α] : ∀ {l m : List α}, l.Nodup → (∀ x ∈ l, x ∈ m) → l.length ≤ m.length
  | [], _, _, _ => Nat.zero_le _
  | a :: l, m, h, hs => by
    obtain ⟨h1, h2⟩ := List.nodup_cons.mp h
    have ha := hs a List.mem_cons_self
    have := nodup_le (m := m.erase a) h2 fun x hx => (List.mem_erase_of_ne (fun e => h1 (by rw [← e]; exact hx))).mpr (hs x (.tail _ hx))
    rw [List.length_erase_of_mem ha] at this
    have := List.length_pos_of_mem ha
    simp only [List.length_cons]; omega
theorem leR_anti (a b : List Int) (h1 : leR a b = true) (h2 : leR b a = true) : a = b := ltI_total a b (by simpa [leR] using h2) (by simpa [leR] using h1)
theorem keys_set {L : List (Addr × List Int)} {ks : List (List Int)} (nd : (L.map (·.2)).Nodup) (hm : ∀ k, k ∈ L.map (·.2) ↔ k ∈ ks) : (insort leT L).map (·.2) = insort leR (onceB [] ks) := by
  have e : (insort leT L).map (·.2) = insort leR (L.map (·.2)) := insort_map (le := leR) (fun p : Addr × List Int => p.2) L
  rw [e]
  refine List.Perm.eq_of_pairwise (le := fun a b => leR a b = true) (fun a b _ _ h1 h2 => leR_anti a b h1 h2) (insort_pw leR_total _) (insort_pw leR_total _) ?_
  refine (insort_perm _).trans (.trans ?_ (insort_perm _).symm)
  refine (List.perm_ext_iff_of_nodup nd (onceB_nd List.nodup_nil)).mpr fun k => ?_
  rw [hm k, onceB_mem]; simp
theorem ints_set {l ns : List Int} (h : l.Pairwise (· < ·)) (hm : ∀ k, k ∈ l ↔ k ∈ ns) : l = insort (fun a b => decide (a ≤ b)) (onceB [] ns) := by
  have T : W.TotalLe (fun a b : Int => decide (a ≤ b)) := ⟨fun a b c h1 h2 => by simp at *; omega, fun a b => by simp; omega⟩
  refine List.Perm.eq_of_pairwise (le := fun a b => a ≤ b) (fun a b _ _ h1 h2 => Int.le_antisymm h1 h2) (h.imp fun h => Int.le_of_lt h) ((insort_pw T _).imp fun h => by simpa using h) ?_
  refine .trans ?_ (insort_perm _).symm
  refine (List.perm_ext_iff_of_nodup (h.imp fun h => Int.ne_of_lt h) (onceB_nd List.nodup_nil)).mpr fun k => ?_
  rw [hm k, onceB_mem]; simp
end VI
namespace VI
open PySem PySem.Spec PyProof.Rows L2
/-! ### x[y] -/
theorem atI_rep {H : Hp} {P : Addr → Prop} {ds : List D} {l : Lv} {xs : List V} {f : FP} {i : Int} {d : D} (q : RepL H P ds l xs f) (h : atI ds i = some d) : ∃ v g, atI xs i = some v ∧ RepD H P d l v g ∧ ∀ a, g a ≤ f a := by
  unfold atI at h ⊢
  rw [← q.len] at h
  obtain ⟨j, h1, h2⟩ := Option.bind_eq_some_iff.mp h
  obtain ⟨v, g, h3, h4, h5⟩ := q.get h2
  exact ⟨v, g, by rw [h1]; exact h3, h4, h5⟩
def rIxDt : R2 := fun x y H Q => ∃ a v, x = .ref a ∧ DGet H a y (some v) ∧ Q v H
def rSub (K : PySem.W.Frag) : R2 := fun x y H Q => rIx K x y H Q ∨ rIxDt x y H Q
theorem ix_dict {X : Cx} (hu : X.A.units + 1 < cLine) : IxR X rIxDt := by
  intro value slice pins s σ H x y v u Q I rx ry h hs
  obtain ⟨a, z, rfl, g, q⟩ := h
  cases rx
  exact tail_any (dict_typeIs I g) PySem.F.slot_dict_getitem.lookup (d_getItem hu I g ry fun w' s' I' r' => ⟨z, H, I', r', q⟩) hs
section
variable {cs : CS} {W : WC} {σ : L2.St} {H : Hp} {Q : VK} {K : PySem.W.Frag}
theorem subX_ok {v w : V} (h : Ns W σ [v, w] H (g2 subX) Q) : rSub K v w H Q := by
  obtain ⟨x, y, e, P, F, f, g, S, rx, ry, fr, q⟩ := h.two
  replace q : PX W σ H P (fa (tot F) (fa f g)) (subX x y e) Q := q
  clear h
  have item : ∀ (ds : List D) (i : Int) (d : D), (deref e x = some (.lst ds) ∨ deref e x = some (.tup ds)) → deref e y = some (.int i) → atI ds i = some d →
      PX W σ H P (fa (tot F) (fa f g)) (if imm d then .ok (im d) e else (kids e x).bind fun p e1 => .ok (.tmp d p.2) e1) Q → rIx K v w H Q := by
    intro ds i d hx hy hd q
    obtain ⟨l2, g2, r2⟩ := deref_ok S ry hy
    obtain rfl := rep_int r2
    split at q
    · rename_i hi
      rcases hx with hx | hx
      · obtain ⟨l1, g1, r1⟩ := deref_ok S rx hx
        obtain ⟨a, xs, g', rfl, h1, h2⟩ := rep_lst r1
        obtain ⟨z, g3, e1, e2, _⟩ := atI_rep h2 hd
        exact .inl ⟨a, xs, i, z, rfl, rfl, .inl h1, e1, q.val (d := d) S (fun a => fa_le a) (RepD.imm (P' := P) .full hi e2).2⟩
      · obtain ⟨l1, g1, r1⟩ := deref_ok S rx hx
        obtain ⟨a, xs, rfl, h1, h2⟩ := rep_tup r1
        obtain ⟨z, g3, e1, e2, _⟩ := atI_rep h2 hd
        exact .inr (.inl ⟨a, xs, i, z, rfl, rfl, .inl h1, e1, q.val (d := d) S (fun a => fa_le a) (RepD.imm (P' := P) .full hi e2).2⟩)
    · replace q := q.from (T1 := fa (tot F) f) ((Stp.refl H P _).mono (fun _ => Nat.le_refl _) fun a => by simp)
      obtain ⟨ds', k, e1, P', F', f', a, xs, S', rfl, q', fr', hk, hl, dd, q⟩ := kids_one S rx fr.fst q
      have same : ds' = ds := by
        rcases dd with ⟨z, _⟩ | ⟨z, _⟩ <;> rcases hx with hx | hx <;> rw [hx] at z <;> injection z with z <;> first | (injection z with z; exact z.symm) | cases z
      subst same
      obtain ⟨z, g3, e4, e2, e3⟩ := atI_rep q' hd
      have fin : Q z H := q z H P' F' g3 S' e2 (fr'.mono e3) ((Stp.refl H P' _).mono (fun _ => Nat.le_refl _) fun b => by have := e3 b; simp; omega)
      rcases dd with ⟨_, r⟩ | ⟨_, r⟩
      · exact .inl ⟨a, xs, i, z, rfl, rfl, .inl r, e4, fin⟩
      · exact .inr (.inl ⟨a, xs, i, z, rfl, rfl, .inl r, e4, fin⟩)
  unfold subX at q
  split at q
  · rename_i s i hx hy
    obtain ⟨l1, g1, r1⟩ := deref_ok S rx hx
    obtain ⟨l2, g2, r2⟩ := deref_ok S ry hy
    obtain rfl := rep_str r1
    obtain rfl := rep_int r2
    split at q
    · rename_i hz
      obtain ⟨z, hz2, q⟩ := ofO_px q
      obtain ⟨c, hc, e2⟩ := Option.map_eq_some_iff.mp hz2
      subst e2
      exact .inl (.inr (.inr ⟨s, i, c, rfl, rfl, hz, hc, q.val (d := .str ⟨#[c]⟩) S (fun a => fa_le a) ⟨rfl, rfl⟩⟩))
    · exact q.elim
  · rename_i kvs k hx hy
    obtain ⟨l1, g1, r1⟩ := deref_ok S rx hx
    obtain ⟨l2, g2, r2⟩ := deref_ok S ry hy
    obtain ⟨z, hz2, q⟩ := ofO_px q
    obtain ⟨k', hk, hz2⟩ := Option.bind_eq_some_iff.mp hz2
    obtain ⟨d, hd, hz2⟩ := Option.bind_eq_some_iff.mp hz2
    obtain rfl := rep_key1 hk r2
    obtain ⟨p, xs, g', rfl, r, zz⟩ := rep_dK r1
    split at hz2
    · rename_i hi
      cases hz2
      rcases RepK.val (k := k') zz with ⟨z1, _⟩ | ⟨d', v', g3, z1, z2, z3, _⟩
      · rw [hd] at z1; cases z1
      · rw [hd] at z1; cases z1
        exact .inr ⟨p, v', rfl, .inl ⟨xs, k', .inl r, rfl, z2.symm⟩, q.val (d := d) S (fun a => fa_le a) (RepD.imm (P' := P) .full hi z3).2⟩
    · cases hz2
  · rename_i ds i hx hy
    split at q
    · rename_i d hd
      exact .inl (item ds i d (.inl hx) hy hd q)
    · exact q.elim
  · rename_i ds i hx hy
    split at q
    · rename_i d hd
      exact .inl (item ds i d (.inr hx) hy hd q)
    · exact q.elim
  · exact q.elim
end
section
variable {X : Cx} {cs : CS} {W : WC} {m ma mb mc : E} {ms : Es} {e a b c o : Expr} {es : List Expr} {pos p2 apos : Pos}
theorem snd_sub {k : Nat} (hr : Room k X.A) (ha : Snd X cs W ma a) (hb : Snd X cs W mb b) : Snd X cs W (.sub ma mb) (.Subscript a b pos) :=
  .plain rfl rfl (pe_imp (pe_ix (IxR.or ix_seq (ix_dict (by have := hr.un; omega))) ha.pe hb.pe (plX_ix hb.pl)) fun σ H Q h => tI_mono (part2 h fun _ => by rw [evalE]) fun v H1 h1 => tI_mono h1 fun w H2 n => subX_ok (K := X.K) n)
/-! ### calls of built-ins -/
theorem pe_callAny {f : Value} {r : RC} {x : Str} {t : TA} {p : Pos} {id : String} (hc : CallR X f r) (hf : f = .builtin id ∨ f = .type id) (hg : Gl X x) (hm : X.mg x = none) (hv : bootBuiltins x = some f) (ha : PA X (e :: es) t) (hn : x ≠ "__name__") (hdb : (x == ("__debug__" : Str)) = false)
    (pl : ∀ y ∈ e :: es, plX y = true) : PE X (.Call (.Name x p) (e :: es) [] pos) (tCB r t) := by
  have h1 := plX_star (pl e List.mem_cons_self) es X.env
  have h2 := plX_any (fun y hy => pl y (List.mem_cons_of_mem _ hy)) X.env pos
  rcases hf with rfl | rfl
  · exact pe_callB hc hg hm hv ha hn hdb h1 h2
  · exact pe_callTy hc hg hm hv ha hn hdb h1 h2
theorem b1_boot : ∀ (b : B1) (n : Bool × String), b1N b = some n → bootBuiltins (Str.ofString n.2) = some (if n.1 then .type n.2 else .builtin n.2) ∧ Str.ofString n.2 ≠ "__name__" ∧ (Str.ofString n.2 == ("__debug__" : Str)) = false := by
  intro b n h
  cases b <;> first
    | (cases h; exact ⟨by with_unfolding_all rfl, by decide +kernel, by decide +kernel⟩)
    | cases h
theorem snd_b1 {b : B1} {n : Bool × String} {p : Pos} {k : Nat} (hr : Room k X.A) (hc : X.calm = true) (h : b1N b = some n) (hg : Gl X (Str.ofString n.2)) (hm : X.mg (Str.ofString n.2) = none) (ha : Snd X cs W ma a) : Snd X cs W (.b1 b ma) (.Call (.Name (Str.ofString n.2) p) [a] [] pos) := by
  obtain ⟨h1, h2, h3⟩ := b1_boot b n h
  refine .plain rfl rfl (pe_imp (pe_callAny (id := n.2) (b1_rule hc (by have := hr.un; omega) b n h) ?_ hg hm h1 (pa_cons ha.pe pa_nil (plX_star ha.pl _ _)) h2 h3 fun y hy => ?_) fun σ H Q h' => ?_)
  · cases n.1 <;> simp
  · rw [List.mem_singleton.mp hy]; exact ha.pl
  · exact tI_mono (part1 h' fun _ => by rw [evalE]) fun v H1 n => b1_ok (by rw [h]; rfl) n
/-! sorted(xs, reverse=True) -/
theorem sort_boot : bootBuiltins "sorted" = some (.builtin "sorted") := by decide +kernel
theorem plX_back {e : Expr} (h : plX e = true) (env : PySem.Env) (pos : Pos) : PySem.backTo pos (starEach [e] env) = (false, eval e env) :: PySem.backTo pos (starEach [] env) := by
  cases e <;> first | rfl | cases h
theorem snd_sortR {p p2 p3 : Pos} {z : Nat} {k : Nat} (hr : Room k X.A) (hg : Gl X "sorted") (hm : X.mg "sorted" = none) (ha : Snd X cs W ma a) : Snd X cs W (.b1 .sortedR ma) (.Call (.Name "sorted" p) [a] [⟨some "reverse", .Constant (.bool true) z p2, p3⟩] pos) := by
  have h1 := plX_star ha.pl ([] : List Expr) X.env
  refine .plain rfl rfl (pe_imp (pe_callBK (call_sortR (by have := hr.un; omega)) hg hm sort_boot (pa_cons ha.pe pa_nil h1) (pk_cons pe_bl pk_nil) (by decide) (by decide) (plX_back ha.pl _ _) (plX_any (fun y hy => by rw [List.mem_singleton.mp hy]; exact ha.pl) _ _)) fun σ H Q h => ?_)
  refine tI_mono (part1 h fun _ => by rw [evalE]) fun v H1 n => ?_
  obtain ⟨x, e, P, F, f, S, rx, fr, q⟩ := n.one
  replace q : PX W σ H1 P (fa (tot F) f) (b1X .sortedR x e) Q := q
  refine ⟨rfl, ?_⟩
  cases hx : deref e x with
  | none => unfold b1X at q; rw [hx] at q; exact q.elim
  | some d =>
    cases d with
    | lst ds => exact b1_sort (K := X.K) (.inr ⟨ds, hx⟩) S rx fr (by unfold b1X at q; rw [hx] at q; exact q)
    | _ => unfold b1X at q; rw [hx] at q; exact q.elim
/-! sorted(set(xs)), len(set(xs)) -/
theorem set_boot : bootBuiltins "set" = some (.type "set") := by decide +kernel
theorem len_boot : bootBuiltins "len" = some (.builtin "len") := by decide +kernel
theorem rows_rep {H : Hp} {P : Addr → Prop} : ∀ {ds : List D} {ks : List (List Int)} {l : Lv} {xs : List V} {f : FP}, rowsD ds = some ks → RepL H P ds l xs f →
    ∃ ps : List (Addr × List Int), ps.map (·.2) = ks ∧ xs = ps.map (fun p => V.ref p.1) ∧ ∀ p ∈ ps, Rd H p.1 (.tup (p.2.map V.int))
  | [], ks, _, _, _, e, h => by cases e; exact ⟨[], rfl, h.1, fun p hp => by cases hp⟩
  | d :: ds, ks, l, xs, f, e, h => by
    obtain ⟨v, r, f1, f2, e1, h1, h2, e2⟩ := h
    obtain ⟨k, hk, e⟩ := Option.bind_eq_some_iff.mp (show (rowD d).bind (fun k => (rowsD ds).map (k :: ·)) = some ks from e)
    obtain ⟨ks', hks, e⟩ := Option.map_eq_some_iff.mp e
    subst e
    obtain ⟨ps, p1, p2, p3⟩ := rows_rep hks h2
    cases d with
    | tup zs =>
      obtain ⟨a, ys, rfl, q1, q2⟩ := h1
      have ey := ints_rep (show intsD zs = some k from hk) q2
      refine ⟨(a, k) :: ps, by rw [List.map_cons, p1], by rw [e1, p2]; rfl, fun p hp => ?_⟩
      rcases List.mem_cons.mp hp with e3 | hp
      · rw [e3, ← ey]; exact q1
      · exact p3 p hp
    | _ => cases hk
theorem repL_ints {H : Hp} {P : Addr → Prop} {l : Lv} : ∀ ns : List Int, RepL H P (ns.map D.int) l (ns.map V.int) fz
  | [] => ⟨rfl, rfl⟩
  | n :: ns => ⟨_, _, fz, fz, rfl, ⟨rfl, rfl⟩, repL_ints ns, (fa_z _).symm⟩
theorem repL_rows {H : Hp} {P : Addr → Prop} {l : Lv} : ∀ ps : List (Addr × List Int), (∀ p ∈ ps, Rd H p.1 (.tup (p.2.map V.int))) → RepL H P (ps.map fun p => D.tup (p.2.map D.int)) l (ps.map fun p => V.ref p.1) fz
  | [], _ => ⟨rfl, rfl⟩
  | p :: ps, h => ⟨_, _, fz, fz, rfl, ⟨p.1, _, rfl, h p List.mem_cons_self, repL_ints p.2⟩, repL_rows ps fun q hq => h q (List.mem_cons_of_mem _ hq), (fa_z _).symm⟩
/-- a new object of another kind beside -/
theorem PX.beside {W : WC} {σ : L2.St} {H : Hp} {P : Addr → Prop} {T : FP} {r : R VI.X} {Q : VK} {a : Addr} (o : HO) (h : PX W σ H P T r Q) (hn : H a = none) : PX W σ (upd H a o) P T r Q :=
  h.from ((Stp.new (P := P) o hn T).mono (fun _ => Nat.le_refl _) fun b => by simp)
theorem set_ok {Y : Cx} {W : WC} {σ : L2.St} {H : Hp} {Q : VK} {v : V} (n : Ns W σ [v] H (g1 (b1X .sortedSet)) Q) :
    (fun xs H Q => rSetI Y.K Y.w xs H Q ∨ rSetT Y.K Y.prog Y.w xs H Q) [v] H fun x H2 => (fun xs H Q => rSortedSet Y.w xs H Q ∨ rSortS Y.K Y.prog Y.w xs H Q) [x] H2 Q := by
  obtain ⟨x, e, P, F, f, S, rx, fr, q⟩ := n.one
  replace q : PX W σ H P (fa (tot F) f) (b1X .sortedSet x e) Q := q
  cases hx : deref e x with
  | none => unfold b1X at q; rw [hx] at q; exact q.elim
  | some d =>
    cases d with
    | lst ds =>
      have q2 : PX W σ H P (fa (tot F) f) (match osetD ds with | some us => R.ok (.tmp (.lst us) .full) e | none => R.stk) Q := by
        unfold b1X at q; rw [hx] at q; exact q
      obtain ⟨l, g, r⟩ := deref_ok S rx hx
      obtain ⟨a, xs, g', rfl, r1, r2⟩ := rep_lst r
      have fin : ∀ {H2 : Hp} {us : List D} {ys : List V} {p : Addr} (o : HO) (a2 : Addr), H a2 = none → H2 = upd H a2 o → osetD ds = some us → RepL H2 P us .full ys fz → H2 p = none → Q (.ref p) (upd H2 p (.lst ys)) := fun o a2 hn e2 hs rl hp => by
        subst e2
        rw [hs] at q2
        exact PX.newL (k := .full) (S.new o hn) rl (by simp) Frm.z (fun b => by simp) (PX.beside o q2 hn) hp
      cases hi : intsD ds with
      | some ns =>
        have ex := ints_rep hi r2
        have hd : osetD ds = (setI ns).map (·.map .int) := by unfold osetD; rw [hi]
        unfold setI at hd
        split at hd
        · rename_i hlt
          refine .inl ⟨a, ns, rfl, .inl (by rw [← ex]; exact r1), hlt.2, fun a2 hn => .inl ⟨a2, _, _, rfl, upd_same, hlt.1, fun ns' p hpw hmem hlen hp => ?_⟩⟩
          obtain rfl := ints_set (ns := ns) hpw fun k => by rw [hmem k]; simp
          exact fin _ a2 hn rfl hd (repL_ints _) hp
        · rw [hd] at q2; exact q2.elim
      | none =>
        have hd : osetD ds = (rowsD ds).bind fun ks => (setT ks).map (·.map fun k => .tup (k.map .int)) := by unfold osetD; rw [hi]
        cases hr : rowsD ds with
        | none => rw [hr] at hd; rw [hd] at q2; exact q2.elim
        | some ks =>
          rw [hr] at hd
          simp only [Option.bind_some] at hd
          unfold setT at hd
          split at hd
          · rename_i hlt
            obtain ⟨ps, p1, p2, p3⟩ := rows_rep hr r2
            have few : Few ps := fun L nd sub => by
              have h1 : (L.map (·.2)).length ≤ (onceB [] ks).length := nodup_le nd fun k hk => by
                obtain ⟨p, hp, rfl⟩ := List.mem_map.mp hk
                rw [onceB_mem, ← p1]
                exact .inr (List.mem_map.mpr ⟨p, sub p hp, rfl⟩)
              rw [List.length_map] at h1
              omega
            refine .inr ⟨a, ps, rfl, .inl (by rw [← p2]; exact r1), fun p hp => .inl (p3 p hp), few, fun a2 L hn hL hks nd => .inr ⟨a2, L, rfl, upd_same, fun p hp => .inl ?_, fun p hp => ?_, fun L' p pm hp => ?_⟩⟩
            · rcases p3 p (hL p hp) with z | ⟨o, z⟩
              · exact .inl (new_ne hn z)
              · exact .inr ⟨o, new_ne hn z⟩
            · have := List.all_eq_true.mp hlt.2 p.2 (by rw [← p1]; exact List.mem_map.mpr ⟨p, hL p hp, rfl⟩)
              intro e0; rw [e0] at this; simp at this
            · have ek : (insort leT L').map (·.2) = insort leR (onceB [] ks) := keys_set ((pm.map (·.2)).nodup_iff.mpr nd) fun k => by
                rw [(pm.map (·.2)).mem_iff, ← p1]
                constructor
                · intro hk
                  obtain ⟨p, hp, rfl⟩ := List.mem_map.mp hk
                  exact List.mem_map.mpr ⟨p, hL p hp, rfl⟩
                · intro hk
                  obtain ⟨p, hp, rfl⟩ := List.mem_map.mp hk
                  exact hks p hp
              have er : (insort leT L').map (fun p => D.tup (p.2.map D.int)) = (insort leR (onceB [] ks)).map fun k => D.tup (k.map D.int) := by
                rw [← ek, List.map_map]; rfl
              have hd' : osetD ds = some ((insort leT L').map fun p => D.tup (p.2.map D.int)) := by rw [hd, er]; rfl
              refine fin _ a2 hn rfl hd' (repL_rows _ fun p hp => ?_) hp
              have := p3 p (hL p (pm.mem_iff.mp (insort_mem.mp hp)))
              rcases this with z | ⟨o, z⟩
              · exact .inl (new_ne hn z)
              · exact .inr ⟨o, new_ne hn z⟩
          · rw [hd] at q2; exact q2.elim
    | _ => unfold b1X at q; rw [hx] at q; exact q.elim
theorem len_ok {Y : Cx} {W : WC} {σ : L2.St} {H : Hp} {Q : VK} {v : V} (n : Ns W σ [v] H (g1 (b1X .lenSet)) Q) :
    rSetI Y.K Y.w [v] H fun x H2 => ∃ (a : Addr) (S : Int → Bool) (n : Nat), [x] = [V.ref a] ∧ H2 a = some (SetO Y.w a S n) ∧ Q (.int n) H2 := by
  obtain ⟨x, e, P, F, f, S, rx, fr, q⟩ := n.one
  replace q : PX W σ H P (fa (tot F) f) (b1X .lenSet x e) Q := q
  cases hx : deref e x with
  | none => unfold b1X at q; rw [hx] at q; exact q.elim
  | some d =>
    cases d with
    | lst ds =>
      have q2 : PX W σ H P (fa (tot F) f) (ofO ((lenD ds).map fun n => im (.int n)) e) Q := by
        unfold b1X at q; rw [hx] at q; exact q
      obtain ⟨l, g, r⟩ := deref_ok S rx hx
      obtain ⟨a, xs, g', rfl, r1, r2⟩ := rep_lst r
      obtain ⟨z, hz, q2⟩ := ofO_px q2
      obtain ⟨m, hm, rfl⟩ := Option.map_eq_some_iff.mp hz
      obtain ⟨ns, hi, hm⟩ := Option.bind_eq_some_iff.mp hm
      split at hm
      · rename_i hle
        cases hm
        have ex := ints_rep hi r2
        exact ⟨a, ns, rfl, .inl (by rw [← ex]; exact r1), hle, fun a2 hn => ⟨a2, _, _, rfl, upd_same, (PX.beside _ q2 hn).val (d := .int _) (S.new _ hn) (fun a => fa_le a) ⟨rfl, rfl⟩⟩⟩
      · cases hm
    | _ => unfold b1X at q; rw [hx] at q; exact q.elim
theorem snd_sortSet {p p2 p3 : Pos} {k : Nat} (hr : Room k X.A) (hc : X.calm = true) (hg : Gl X "sorted") (hm : X.mg "sorted" = none) (hg2 : Gl X "set") (hm2 : X.mg "set" = none) (ha : Snd X cs W ma a) :
    Snd X cs W (.b1 .sortedSet ma) (.Call (.Name "sorted" p) [.Call (.Name "set" p2) [a] [] p3] [] pos) := by
  have hu : X.A.units + 64 < cLine := by have := hr.un; omega
  have inner := pe_callAny (pos := p3) (p := p2) (id := "set") ((cr_setI hc).or (cr_setT hc hu)) (.inr rfl) hg2 hm2 set_boot (pa_cons ha.pe pa_nil (plX_star ha.pl _ _)) (by decide) (by decide) fun y hy => by rw [List.mem_singleton.mp hy]; exact ha.pl
  refine .plain rfl rfl (pe_imp (pe_callAny (id := "sorted") ((cr_sortedSet hc).or (cr_sortS hc hu)) (.inl rfl) hg hm sort_boot (pa_cons inner pa_nil rfl) (by decide) (by decide) fun y hy => by rw [List.mem_singleton.mp hy]; rfl) fun σ H Q h => ?_)
  exact tI_mono (part1 h fun _ => by rw [evalE]) fun v H1 n => set_ok n
theorem snd_lenSet {p p2 p3 : Pos} (hc : X.calm = true) (hg : Gl X "len") (hm : X.mg "len" = none) (hg2 : Gl X "set") (hm2 : X.mg "set" = none) (ha : Snd X cs W ma a) :
    Snd X cs W (.b1 .lenSet ma) (.Call (.Name "len" p) [.Call (.Name "set" p2) [a] [] p3] [] pos) := by
  have inner := pe_callAny (pos := p3) (p := p2) (id := "set") (cr_setI hc) (.inr rfl) hg2 hm2 set_boot (pa_cons ha.pe pa_nil (plX_star ha.pl _ _)) (by decide) (by decide) fun y hy => by rw [List.mem_singleton.mp hy]; exact ha.pl
  refine .plain rfl rfl (pe_imp (pe_callAny (id := "len") cr_lenSet (.inl rfl) hg hm len_boot (pa_cons inner pa_nil rfl) (by decide) (by decide) fun y hy => by rw [List.mem_singleton.mp hy]; rfl) fun σ H Q h => ?_)
  exact tI_mono (part1 h fun _ => by rw [evalE]) fun v H1 n => len_ok n
/-! min, max -/
def rMM (mx : Bool) : RC := fun xs H Q => ∃ i j, xs = [.int i, .int j] ∧ Q (.int (if mx then (if j > i then j else i) else if j < i then j else i)) H
def mmId : Bool → String
  | true => "max" | false => "min"
def mmB : Bool → B2
  | true => .max | false => .min
theorem call_mm (hc : X.calm = true) (mx : Bool) : CallR X (.builtin (mmId mx)) (rMM mx) := by
  cases mx
  · exact call_min2 hc
  · exact call_max2 hc
theorem mm_boot (mx : Bool) : bootBuiltins (Str.ofString (mmId mx)) = some (.builtin (mmId mx)) ∧ Str.ofString (mmId mx) ≠ "__name__" ∧ (Str.ofString (mmId mx) == ("__debug__" : Str)) = false := by
  cases mx <;> exact ⟨by with_unfolding_all rfl, by decide +kernel, by decide +kernel⟩
theorem mm_ok {mx : Bool} {σ : L2.St} {H : Hp} {Q : VK} {v w : V} (n : Ns W σ [v, w] H (g2 (b2X (mmB mx))) Q) : rMM mx [v, w] H Q := by
  obtain ⟨x, y, e, P, F, f, g, S, rx, ry, fr, q⟩ := n.two
  replace q : PX W σ H P (fa (tot F) (fa f g)) (mmX mx x y e) Q := by
    cases mx <;> exact q
  unfold mmX at q
  split at q
  · rename_i i j hx hy
    obtain ⟨l1, g1, r1⟩ := deref_ok S rx hx
    obtain ⟨l2, g2, r2⟩ := deref_ok S ry hy
    obtain rfl := rep_int r1
    obtain rfl := rep_int r2
    exact ⟨i, j, rfl, q.val (d := .int _) S (fun a => fa_le a) ⟨rfl, rfl⟩⟩
  · exact q.elim
theorem snd_mm {mx : Bool} {p : Pos} (hc : X.calm = true) (hg : Gl X (Str.ofString (mmId mx))) (hm : X.mg (Str.ofString (mmId mx)) = none) (ha : Snd X cs W ma a) (hb : Snd X cs W mb b) : Snd X cs W (.b2 (mmB mx) ma mb) (.Call (.Name (Str.ofString (mmId mx)) p) [a, b] [] pos) := by
  obtain ⟨h1, h2, h3⟩ := mm_boot mx
  refine .plain rfl rfl (pe_imp (pe_callAny (id := mmId mx) (call_mm hc mx) (.inl rfl) hg hm h1 (pa_cons ha.pe (pa_cons hb.pe pa_nil (plX_star hb.pl _ _)) (plX_star ha.pl _ _)) h2 h3 fun y hy => ?_) fun σ H Q h' => ?_)
  · rcases List.mem_cons.mp hy with rfl | hy
    · exact ha.pl
    · rw [List.mem_singleton.mp hy]; exact hb.pl
  · exact tI_mono (part2 h' fun _ => by rw [evalE]; cases mx <;> rfl) fun v H1 h1 => tI_mono h1 fun w H2 n => mm_ok n
end
end VI
namespace VI
open PySem PySem.Spec PyProof.Rows L2
section
variable {cs : CS} {W : WC} {σ : L2.St} {H : Hp} {Q : VK} {K : PySem.W.Frag}
theorem RepL.rev {H : Hp} {P : Addr → Prop} : ∀ {ds : List D} {l : Lv} {xs : List V} {f : FP}, RepL H P ds l xs f → RepL H P ds.reverse l xs.reverse f
  | [], l, xs, f, h => by obtain ⟨rfl, rfl⟩ := h; exact ⟨rfl, rfl⟩
  | d :: ds, l, xs, f, h => by
    obtain ⟨v, r, f1, f2, e, h1, h2, e2⟩ := h
    subst e e2
    rw [List.reverse_cons, List.reverse_cons, fa_comm]
    exact (RepL.rev h2).app (RepL.one h1)
/-! ### slices -/
def tOI (cs : CS) (W : WC) (o : Eo) : TO := fun σ H Q => ∃ e P F, St0 σ e H P F ∧ PB W σ H P (tot F) (evalO cs o e) Q
theorem tOI_none {Q : Option Int → Hp → Prop} (h : tOI cs W .no σ H Q) : tNoPart σ H Q := by
  obtain ⟨e, P, F, S, q⟩ := h
  rw [evalO] at q
  exact q H P F S (.refl _ _ _)
theorem tOI_some {m : E} {Q : Option Int → Hp → Prop} (h : tOI cs W (.so m) σ H Q) : tPart (tI cs W m) σ H Q := by
  obtain ⟨e, P, F, S, q⟩ := h
  rw [evalO] at q
  refine ⟨e, P, F, S, ?_⟩
  cases ea : evalE cs m e with
  | stk => rw [ea] at q; exact q
  | exc c e1 => rw [ea] at q; exact q
  | ok x e1 =>
    rw [ea] at q
    intro v H1 P1 F1 f S1 rx fr st
    replace q : PB W σ H P (tot F) (match deref e1 x with | some (.int i) => .ok (some i) e1 | _ => .stk) Q := q
    split at q
    · rename_i i hx
      obtain ⟨l, g, r⟩ := deref_ok S1 rx hx
      exact ⟨i, rep_int r, q H1 P1 F1 S1 (st.mono (fun _ => Nat.le_refl _) fun a => by simp)⟩
    · exact q.elim
theorem Ns.nextO {vs : List V} {G : List X → Env → R X} {G' : Option Int → List X → Env → R X} {o : Eo} (h : Ns W σ vs H G Q) (hg : ∀ xs e, xs.length = vs.length → G xs e = (evalO cs o e).bind fun l e' => G' l xs e') :
    tOI cs W o σ H fun l H' => Ns W σ vs H' (G' l) Q := by
  obtain ⟨xs, e, P, F, f, S, rx, fr, q⟩ := h
  refine ⟨e, P, F, S, ?_⟩
  rw [hg xs e rx.len] at q
  cases ea : evalO cs o e with
  | stk => rw [ea] at q; exact q
  | exc c e' =>
    rw [ea] at q
    intro H' P' F' S' st
    exact q H' P' F' S' ((st.wide f).mono (fun _ => Nat.le_refl _) fun a => by simp)
  | ok l e' =>
    rw [ea] at q
    intro H' P' F' S' st
    exact ⟨xs, e', P', F', f, S', rx.car (st.car fr fun a z => S.sep a z), st.frm fr, PX.from (st.wide f) q⟩
def rSl (K : PySem.W.Frag) : V → Option Int → Option Int → Hp → VK → Prop := fun x lo hi H Q => rSlL K x lo hi H Q ∨ rSlA K x lo hi H Q ∨ rSlS x lo hi H Q
theorem sl_all {X : Cx} : SlR X (rSl X.K) := sl_list.or (sl_tupA.or sl_str)
theorem RepL.cut {P : Addr → Prop} {ds : List D} {l : Lv} {xs : List V} {f : FP} (q : RepL H P ds l xs f) (lo hi : Option Int) : ∃ g, RepL H P (cutD ds lo hi) l (cutV xs lo hi) g ∧ ∀ a, g a ≤ f a := by
  unfold cutD cutV
  rw [q.len]
  obtain ⟨g, h1, h2⟩ := q.drop (HT.sIx ds.length 0 lo)
  obtain ⟨g', h3, h4⟩ := h1.take (HT.sIx ds.length ds.length hi - HT.sIx ds.length 0 lo)
  exact ⟨g', h3, fun a => Nat.le_trans (h4 a) (h2 a)⟩
theorem cut_whole {α : Type} (ds : List α) (lo hi : Option Int) (h : HT.sIx ds.length 0 lo = 0 ∧ HT.sIx ds.length ds.length hi = ds.length) : cutD ds lo hi = ds := by
  unfold cutD
  rw [h.1, h.2, List.drop_zero, Nat.sub_zero, List.take_length]
theorem slcX_ok {v : V} {lo hi : Option Int} (n : Ns W σ [v] H (g1 fun x e => slcX x lo hi e) Q) : rSl K v lo hi H Q := by
  obtain ⟨x, e, P, F, f, S, rx, fr, q⟩ := n.one
  replace q : PX W σ H P (fa (tot F) f) (slcX x lo hi e) Q := q
  unfold slcX at q
  split at q
  · rename_i s hx
    obtain ⟨l, g, r⟩ := deref_ok S rx hx
    obtain rfl := rep_str r
    split at q
    · rename_i hz
      exact .inr (.inr ⟨s, rfl, hz, q.val (d := .str _) S (fun a => fa_le a) ⟨rfl, rfl⟩⟩)
    · exact q.elim
  · rename_i ds0 hx
    obtain ⟨ds, k, e1, P', F', f', a, xs, S', rfl, q', fr', hk, hl, d, q⟩ := kids_one S rx fr q
    have r : Rd H a (.lst xs) := by
      rcases d with ⟨_, r⟩ | ⟨z, _⟩
      · exact r
      · rw [hx] at z; cases z
    obtain ⟨g, h1, h2⟩ := q'.cut lo hi
    exact .inl ⟨a, xs, rfl, .inl r, fun p hp => PX.newL S' h1 hk (fr'.mono h2) (fun b => by have := h2 b; simp; omega) q hp⟩
  · rename_i ds0 hx
    obtain ⟨ds, k, e1, P', F', f', a, xs, S', rfl, q', fr', hk, hl, d, q⟩ := kids_one S rx fr q
    have r : Rd H a (.tup xs) := by
      rcases d with ⟨z, _⟩ | ⟨_, r⟩
      · rw [hx] at z; cases z
      · exact r
    refine .inr (.inl ⟨a, xs, rfl, .inl r, fun hw => ?_, fun _ p hp => ?_⟩)
    · rw [hl] at hw
      replace q : PX W σ H P' (fa (tot F') f') (.ok (mkT (cutD ds lo hi) k) e1) Q := q
      rw [cut_whole ds lo hi hw] at q
      refine q _ H P' F' f' S' ⟨a, xs, rfl, r, ?_⟩ fr' (.refl _ _ _)
      have e : k.pred = k := by cases k <;> first | rfl | exact absurd rfl hk
      rw [e]; exact q'
    · obtain ⟨g, h1, h2⟩ := q'.cut lo hi
      exact PX.newT S' h1 hk (fr'.mono h2) (fun b => by have := h2 b; simp; omega) q hp
  · exact q.elim
end
section
variable {X : Cx} {cs : CS} {W : WC} {m ma mb mc : E} {ms : Es} {e a b c o : Expr} {es : List Expr} {pos p2 apos : Pos} {lo hi : Option Expr} {ml mh : Eo}
structure SndO (X : Cx) (cs : CS) (W : WC) (m : Eo) (e : Option Expr) : Prop where
  po : PO X e (tOI cs W m)
theorem po_imp {t t' : TO} (h : PO X lo t) (i : ∀ σ H Q, t' σ H Q → t σ H Q) : PO X lo t' := ⟨fun pins s σ H Q I q => h.run pins s σ H Q I (i σ H Q q)⟩
theorem snd_no : SndO X cs W .no none := ⟨po_imp po_none fun σ H Q h => tOI_none h⟩
theorem snd_so (h : Snd X cs W m e) : SndO X cs W (.so m) (some e) := ⟨po_imp (po_some h.pe) fun σ H Q h => tOI_some h⟩
theorem tOI_mono {σ : L2.St} {H : Hp} {Q Q' : Option Int → Hp → Prop} (h : tOI cs W ml σ H Q) (i : ∀ v H', Q v H' → Q' v H') : tOI cs W ml σ H Q' := by
  obtain ⟨e, P, F, S, q⟩ := h
  exact ⟨e, P, F, S, q.mono i⟩
theorem snd_slc (ha : Snd X cs W ma a) (hl : SndO X cs W ml lo) (hh : SndO X cs W mh hi) : Snd X cs W (.slc ma ml mh) (.Subscript a (.Slice lo hi none p2) pos) :=
  .plain rfl rfl (pe_imp (pe_slice sl_all ha.pe hl.po hh.po) fun σ H Q h => tI_mono (part1 h fun _ => by rw [evalE]) fun v H1 n =>
    tOI_mono (n.nextO (cs := cs) (o := ml) (G' := fun l xs e => match xs with | [x] => (evalO cs mh e).bind fun h e3 => slcX x l h e3 | _ => .stk) fun xs e hl => by
      match xs, hl with
      | [x], _ => rfl) fun l H2 n => tOI_mono (n.nextO (cs := cs) (o := mh) (G' := fun h => g1 fun x e => slcX x l h e) fun xs e hl => by
      match xs, hl with
      | [x], _ => rfl) fun h H3 n => slcX_ok (K := X.K) n)
/-- xs[::-1] -/
theorem snd_rev {k : Nat} {p1 p2 p3 : Pos} (ha : Snd X cs W ma a) : Snd X cs W (.b1 .rev ma) (.Subscript a (.Slice none none (some (.UnaryOp .USub (.Constant (.int 1) k p1) p2)) p3) pos) :=
  .plain rfl rfl (pe_imp (pe_revL ha.pe) fun σ H Q h => tI_mono (part1 h fun _ => by rw [evalE]) fun v H1 n => by
    obtain ⟨x, e, P, F, f, S, rx, fr, q⟩ := n.one
    replace q : PX W σ H1 P (fa (tot F) f) (b1X .rev x e) Q := q
    unfold b1X at q
    split at q <;> rename_i hb hx <;> first | (cases hb; done) | skip
    · obtain ⟨ds, k, e1, P', F', f', a, xs, S', rfl, q', fr', hk, hl, d, q⟩ := kids_one S rx fr q
      have r : Rd H1 a (.lst xs) := by
        rcases d with ⟨_, r⟩ | ⟨z, _⟩
        · exact r
        · rw [hx] at z; cases z
      exact ⟨a, xs, rfl, .inl r, fun p hp => PX.newL S' q'.rev hk fr' (fun b => Nat.le_refl _) q hp⟩
    · exact q.elim)
end
end VI
namespace VI
open PySem PySem.Spec PyProof.Rows L2
/-- no call without arguments (super()) -/
def naB : Expr → Bool
  | .Call (.Name _ _) [] [] _ => false
  | _ => true
theorem naB_ok {o : Expr} (h : naB o = true) (n : Str) (env : PySem.Env) (w : Sem Value) : attributeBase o n env w = w := by
  unfold attributeBase
  split
  · cases h
  · rfl
section
variable {cs : CS} {W : WC} {σ : L2.St} {H : Hp} {Q : VK} {K : PySem.W.Frag}
theorem pyL_get : ∀ {ds : List D} {i : Nat}, (pyL ds)[i]? = (ds[i]?).map py
  | [], i => by simp [pyL]
  | d :: ds, 0 => by simp [pyL]
  | d :: ds, i + 1 => by simp [pyL, pyL_get (ds := ds) (i := i)]
theorem findEq_ok {d : D} : ∀ {ds : List D} {n j : Nat}, findEq d ds n = some j → ∃ i z, j = n + i ∧ ds[i]? = some z ∧ PyData.eqv (py z) (py d) = true ∧ ∀ (m : Nat) (z' : D), m < i → ds[m]? = some z' → PyData.eqv (py z') (py d) = false
  | [], n, j, h => by cases h
  | c :: ds, n, j, h => by
    have h' : (if PyData.eqv (py c) (py d) = true then some n else findEq d ds (n + 1)) = some j := h
    split at h'
    · rename_i hc
      cases h'
      exact ⟨0, c, rfl, rfl, hc, fun m z' hm => absurd hm (Nat.not_lt_zero _)⟩
    · rename_i hc
      obtain ⟨i, z, e1, e2, e3, e4⟩ := findEq_ok h'
      refine ⟨i + 1, z, by omega, by simpa using e2, e3, fun m z' hm e => ?_⟩
      cases m with
      | zero => simp at e; subst e; simpa using hc
      | succ m => exact e4 m z' (by omega) (by simpa using e)
theorem idxX_ok {v w : V} (n : Ns W σ [v, w] H (g2 idxX) Q) : rIndexD K v [w] H Q := by
  obtain ⟨x, y, e, P, F, f, g, S, rx, ry, fr, q⟩ := n.two
  replace q : PX W σ H P (fa (tot F) (fa f g)) (idxX x y e) Q := q
  unfold idxX at q
  split at q
  · rename_i ds d hx hy
    obtain ⟨l1, g1, r1⟩ := deref_ok S rx hx
    obtain ⟨l2, g2, r2⟩ := deref_ok S ry hy
    split at q
    · rename_i hs
      obtain ⟨h1, h2⟩ := Bool.and_eq_true_iff.mp hs
      obtain ⟨z, hz, q⟩ := ofO_px q
      obtain ⟨j, hj, e2⟩ := Option.map_eq_some_iff.mp hz
      subst e2
      obtain ⟨i, z, e1, e2, e3, e4⟩ := findEq_ok hj
      have dpl := r1.dp (K := K) (SeqAt.canLay_of_shaped h2)
      obtain ⟨a, xs, g', ev, _⟩ := rep_lst r1
      subst ev
      refine ⟨a, w, py d, pyL ds, i, py z, rfl, rfl, dpl, r2.dp (SeqAt.canLay_of_shaped h1), h2, h1, by rw [pyL_get, e2]; rfl, e3, fun m z' hm hz' => ?_, ?_⟩
      · rw [pyL_get] at hz'
        obtain ⟨z2, h3, h4⟩ := Option.map_eq_some_iff.mp hz'
        subst h4
        exact e4 m z2 hm h3
      · have : j = i := by omega
        subst this
        exact q.val (d := .int _) S (fun a => fa_le a) ⟨rfl, rfl⟩
    · exact q.elim
  · exact q.elim
theorem cntX_ok {v w : V} (n : Ns W σ [v, w] H (g2 cntX) Q) : rCntI K v [w] H Q := by
  obtain ⟨x, y, e, P, F, f, g, S, rx, ry, fr, q⟩ := n.two
  replace q : PX W σ H P (fa (tot F) (fa f g)) (cntX x y e) Q := q
  unfold cntX at q
  split at q
  · rename_i ds k hx hy
    obtain ⟨l1, g1, r1⟩ := deref_ok S rx hx
    obtain ⟨l2, g2, r2⟩ := deref_ok S ry hy
    obtain rfl := rep_int r2
    obtain ⟨a, xs, g', rfl, r3, r4⟩ := rep_lst r1
    obtain ⟨z, hz, q⟩ := ofO_px q
    obtain ⟨ns, hn, e2⟩ := Option.map_eq_some_iff.mp hz
    subst e2
    obtain rfl := ints_rep hn r4
    exact ⟨a, ns, k, rfl, rfl, .inl r3, q.val (d := .int _) S (fun a => fa_le a) ⟨rfl, rfl⟩⟩
  · exact q.elim
theorem joinX_ok {v w : V} (n : Ns W σ [v, w] H (g2 joinX) Q) : ∃ a p, ∃ ys : List Str, v = .str a ∧ [w] = [.ref p] ∧ (SqL K H p (ys.map V.str) ∨ SqT K H p (ys.map V.str)) ∧
    (ys.map (·.length)).sum + ys.length * a.length ≤ 16777216 ∧ Q (.str (Txt.join a ys)) H := by
  obtain ⟨x, y, e, P, F, f, g, S, rx, ry, fr, q⟩ := n.two
  replace q : PX W σ H P (fa (tot F) (fa f g)) (joinX x y e) Q := q
  unfold joinX at q
  split at q
  · rename_i s ds hx hy
    obtain ⟨l1, g1, r1⟩ := deref_ok S rx hx
    obtain ⟨l2, g2, r2⟩ := deref_ok S ry hy
    obtain rfl := rep_str r1
    obtain ⟨a, xs, g', rfl, r3, r4⟩ := rep_lst r2
    obtain ⟨z, hz, q⟩ := ofO_px q
    obtain ⟨ys, hy2, hz⟩ := Option.bind_eq_some_iff.mp hz
    split at hz
    · rename_i hl
      cases hz
      refine ⟨s, a, ys, rfl, rfl, .inl (.inl ?_), hl, q.val (d := .str _) S (fun a => fa_le a) ⟨rfl, rfl⟩⟩
      rw [← strs_rep hy2 r4]; exact r3
    · cases hz
  · exact q.elim
theorem b3get_ok {v w u : V} (n : Ns W σ [v, w, u] H (g3 (b3X .get)) Q) : ∃ a o, v = .ref a ∧ DGet H a w o ∧ Q (o.getD u) H := by
  obtain ⟨x, y, z, e, P, F, f1, f2, f3, S, rx, ry, rz, fr, q⟩ := n.thr
  replace q : PX W σ H P (fa (tot F) (fa f1 (fa f2 f3))) (b3X .get x y z e) Q := q
  unfold b3X at q
  split at q
  · rename_i kvs k d hb hx hy hz
    obtain ⟨l1, g1, r1⟩ := deref_ok S rx hx
    obtain ⟨l3, g3, r3⟩ := deref_ok S rz hz
    obtain ⟨dk, hy1, hy2⟩ := Option.bind_eq_some_iff.mp hy
    obtain ⟨l2, g2, r2⟩ := deref_ok S ry hy1
    obtain rfl := rep_key1 hy2 r2
    obtain ⟨p, xs, g', rfl, r, zz⟩ := rep_dK r1
    split at q
    · rename_i hi
      rcases RepK.val (k := k) zz with ⟨z1, z2⟩ | ⟨d', v', g4, z1, z2, z3, _⟩
      · rw [z1] at q
        exact ⟨p, none, rfl, .inl ⟨xs, k, .inl r, rfl, z2.symm⟩, q.val (d := d) S (fun a => fa_le a) (RepD.imm (P' := P) .full hi r3).2⟩
      · rw [z1] at q
        replace q : PX W σ H P (fa (tot F) (fa f1 (fa f2 f3))) (if imm d' then .ok (im d') e else .stk) Q := q
        split at q
        · rename_i hi2
          exact ⟨p, some v', rfl, .inl ⟨xs, k, .inl r, rfl, z2.symm⟩, q.val (d := d') S (fun a => fa_le a) (RepD.imm (P' := P) .full hi2 z3).2⟩
        · exact q.elim
    · exact q.elim
  · exact q.elim
end
section
variable {X : Cx} {cs : CS} {W : WC} {m ma mb mc : E} {ms : Es} {e a b c o : Expr} {es : List Expr} {pos p2 apos : Pos}
theorem b2R_index {o : Option D} (h : b2R .index o = true) : ∃ ds, o = some (.lst ds) := by
  cases o with
  | none => cases h
  | some d => cases d <;> first | exact ⟨_, rfl⟩ | cases h
theorem b2R_join {o : Option D} (h : b2R .join o = true) : ∃ ds, o = some (.str ds) := by
  cases o with
  | none => cases h
  | some d => cases d <;> first | exact ⟨_, rfl⟩ | cases h
/-- the receiver of a method, then its one argument -/
theorem part2r {r : B2} {f : VI.X → VI.X → Env → R VI.X} {σ : L2.St} {H : Hp} {Q : VK} {T : V → Hp → Prop} (h : tI cs W m σ H Q) (hm : ∀ e, evalE cs m e = (evalE cs a' e).bind fun x e1 => if b2R r (deref e1 x) then (evalE cs mc e1).bind fun y e2 => f x y e2 else .stk)
    (hT : ∀ (e : Env) (x : VI.X) (v : V) (H : Hp) (P : Addr → Prop) (F : List FP) (f : FP), St0 σ e H P F → RX σ H P x v f → b2R r (deref e x) = true → T v H) :
    tI cs W a' σ H fun v H1 => T v H1 ∧ tI cs W mc σ H1 fun w H2 => Ns W σ [v, w] H2 (g2 f) Q :=
  tI_mono (part1 h hm) fun v H1 n => by
    obtain ⟨x, e, P, F, f', S, rx, fr, q⟩ := n.one
    replace q : PX W σ H1 P (fa (tot F) f') (if b2R r (deref e x) then (evalE cs mc e).bind fun y e2 => f x y e2 else .stk) Q := q
    split at q
    · rename_i hb
      refine ⟨hT e x v H1 P F f' S rx hb, ?_⟩
      have n2 : Ns W σ [v] H1 (fun xs e => match xs with | [x] => (evalE cs mc e).bind fun y e2 => f x y e2 | _ => .stk) Q :=
        ⟨[x], e, P, F, f', S, ⟨v, [], f', fz, rfl, rx, ⟨rfl, rfl⟩, (fa_z _).symm⟩, fr, q⟩
      exact n2.next (G' := g2 f) fun xs e hl => by
        match xs, hl with
        | [x], _ => rfl
    · exact q.elim
theorem plX_few (cpos : Pos) (env : PySem.Env) {es : List Expr} (h : ∀ e ∈ es, plX e = true) (hl : es.length < 30) : ((PySem.backTo cpos (starEach es env)).all (fun x => !x.1) && (backToKw cpos (keywordEach [] env)).all (fun x => x.1.isSome)
      && decide (es.length + ([] : List Keyword).length + (if ([] : List Keyword).isEmpty then 0 else 1) < 30)) = true := by
  have h1 := plX_any h env cpos
  have h2 : (PySem.backTo cpos (starEach es env)).all (fun x => !x.1) = true := by
    rw [List.all_eq_true]
    intro x hx
    rw [List.any_eq_false] at h1
    simpa using h1 x hx
  rw [h2]
  have h3 : (backToKw cpos (keywordEach [] env)).all (fun x => x.1.isSome) = true := rfl
  rw [h3]
  simpa using hl
theorem snd_index {k : Nat} (hr : Room k X.A) (ho : Snd X cs W mb o) (hn : naB o = true) (ha : Snd X cs W ma a) (hl : (apos.endLine == pos.line) = true) : Snd X cs W (.b2 .index mb ma) (.Call (.Attribute o "index" apos) [a] [] pos) := by
  have pl : ∀ y ∈ [a], plX y = true := fun y hy => by rw [List.mem_singleton.mp hy]; exact ha.pl
  refine .plain rfl rfl (pe_imp (pe_bm PySem.F.plainAttrs_list PySem.F.slot_list_index PySem.F.type_list_index (mt_indexD (by have := hr.un; omega)) ho.pe (pa_cons ha.pe pa_nil (plX_star ha.pl _ _)) (naB_ok hn _ _ _) (plX_few _ _ pl (by simp)) hl (plX_star ha.pl _ _) rfl) fun σ H Q h => ?_)
  refine tI_mono (part2r (r := .index) (T := fun v H1 => tyV X.K "list" v H1) h (fun _ => by rw [evalE]; rfl) fun e x v H P F f S rx hb => ?_) fun v H1 ⟨h1, h2⟩ => ⟨h1, tI_mono h2 fun w H2 n => idxX_ok (K := X.K) n⟩
  obtain ⟨ds, h2⟩ := b2R_index hb
  obtain ⟨l, g, r⟩ := deref_ok S rx h2
  obtain ⟨a, xs, g', rfl, r3, r4⟩ := rep_lst r
  exact .inl ⟨rfl, xs, .inl r3⟩
theorem b2R_count {o : Option D} (h : b2R .count o = true) : ∃ ds, o = some (.lst ds) := by
  cases o with
  | none => cases h
  | some d => cases d <;> first | exact ⟨_, rfl⟩ | cases h
theorem snd_count {k : Nat} (hr : Room k X.A) (ho : Snd X cs W mb o) (hn : naB o = true) (ha : Snd X cs W ma a) (hl : (apos.endLine == pos.line) = true) : Snd X cs W (.b2 .count mb ma) (.Call (.Attribute o "count" apos) [a] [] pos) := by
  have pl : ∀ y ∈ [a], plX y = true := fun y hy => by rw [List.mem_singleton.mp hy]; exact ha.pl
  refine .plain rfl rfl (pe_imp (pe_bm PySem.F.plainAttrs_list PySem.F.slot_list_count PySem.F.type_list_count mt_lcount ho.pe (pa_cons ha.pe pa_nil (plX_star ha.pl _ _)) (naB_ok hn _ _ _) (plX_few _ _ pl (by simp)) hl (plX_star ha.pl _ _) rfl) fun σ H Q h => ?_)
  refine tI_mono (part2r (r := .count) (T := fun v H1 => tyV X.K "list" v H1) h (fun _ => by rw [evalE]; rfl) fun e x v H P F f S rx hb => ?_) fun v H1 ⟨h1, h2⟩ => ⟨h1, tI_mono h2 fun w H2 n => cntX_ok (K := X.K) n⟩
  obtain ⟨ds, h2⟩ := b2R_count hb
  obtain ⟨l, g, r⟩ := deref_ok S rx h2
  obtain ⟨a, xs, g', rfl, r3, r4⟩ := rep_lst r
  exact .inl ⟨rfl, xs, .inl r3⟩
theorem snd_join (ho : Snd X cs W mb o) (hn : naB o = true) (ha : Snd X cs W ma a) (hl : (apos.endLine == pos.line) = true) : Snd X cs W (.b2 .join mb ma) (.Call (.Attribute o "join" apos) [a] [] pos) := by
  refine .plain rfl rfl (pe_imp (pe_join ho.pe ha.pe (plX_star ha.pl _ _) (naB_ok hn _ _ _) hl) fun σ H Q h => ?_)
  refine tI_mono (part2r (r := .join) (T := fun v H1 => ∃ a, v = .str a) h (fun _ => by rw [evalE]; rfl) fun e x v H P F f S rx hb => ?_) fun v H1 ⟨h1, h2⟩ => ⟨h1, tI_mono h2 fun w H2 n => joinX_ok (K := X.K) n⟩
  obtain ⟨s, h2⟩ := b2R_join hb
  obtain ⟨l, g, r⟩ := deref_ok S rx h2
  exact ⟨_, rep_str r⟩
theorem snd_get {k : Nat} (hr : Room k X.A) (ho : Snd X cs W mb o) (hn : naB o = true) (ha : Snd X cs W ma a) (hb : Snd X cs W mc b) (hl : (apos.endLine == pos.line) = true) : Snd X cs W (.b3 .get mb ma mc) (.Call (.Attribute o "get" apos) [a, b] [] pos) := by
  have pl : ∀ y ∈ [a, b], plX y = true := fun y hy => by
    rcases List.mem_cons.mp hy with rfl | hy
    · exact ha.pl
    · rw [List.mem_singleton.mp hy]; exact hb.pl
  refine .plain rfl rfl (pe_imp (pe_dget2 (by have := hr.un; omega) ho.pe ha.pe hb.pe ⟨naB_ok hn _ _ _, plX_few _ _ pl (by simp), hl, by rw [plX_star ha.pl, plX_star hb.pl]; rfl⟩) fun σ H Q h => ?_)
  refine tI_mono (part1 h fun _ => by rw [evalE]) fun v H1 n => ?_
  obtain ⟨x, e, P, F, f', S, rx, fr, q⟩ := n.one
  replace q : PX W σ H1 P (fa (tot F) f') (if b3R .get (deref e x) then (evalE cs ma e).bind fun y e2 => (evalE cs mc e2).bind fun z e3 => b3X .get x y z e3 else .stk) Q := q
  split at q
  · rename_i hbr
    have hd : ∃ kvs, deref e x = some (.dK kvs) := by
      unfold b3R at hbr
      split at hbr
      · rename_i kvs _ h2; exact ⟨kvs, h2⟩
      · cases hbr
    obtain ⟨kvs, hx⟩ := hd
    obtain ⟨l, g, r⟩ := deref_ok S rx hx
    obtain ⟨p, xs, g', rfl, r', zz⟩ := rep_dK r
    refine ⟨p, rfl, .inl ⟨xs, .inl r'⟩, ?_⟩
    have n2 : Ns W σ [V.ref p] H1 (fun xs e => match xs with | [x] => (evalE cs ma e).bind fun y e2 => (evalE cs mc e2).bind fun z e3 => b3X .get x y z e3 | _ => .stk) Q :=
      ⟨[x], e, P, F, f', S, ⟨_, [], f', fz, rfl, rx, ⟨rfl, rfl⟩, (fa_z _).symm⟩, fr, q⟩
    refine tI_mono (n2.next (G' := fun xs e => match xs with | [x, y] => (evalE cs mc e).bind fun z e3 => b3X .get x y z e3 | _ => .stk) fun xs e hl => by
      match xs, hl with
      | [x], _ => rfl) fun w H2 n3 => tI_mono (n3.next (G' := g3 (b3X .get)) fun xs e hl => by
      match xs, hl with
      | [x, y], _ => rfl) fun u H3 n4 => ?_
    obtain ⟨a', o', e1, e2, e3⟩ := b3get_ok n4
    cases e1
    exact ⟨o', e2, e3⟩
  · exact q.elim
end
end VI
namespace VI
open PySem PySem.Spec PyProof.Rows L2
/-! ### ranges -/
theorem ints_repL {H : Hp} {P : Addr → Prop} {l : Lv} : ∀ ns : List Int, RepL H P (ns.map D.int) l (ns.map V.int) fz
  | [] => ⟨rfl, rfl⟩
  | n :: ns => ⟨.int n, ns.map V.int, fz, fz, rfl, ⟨rfl, rfl⟩, ints_repL ns, rfl⟩
theorem rangeI_len (lo : Int) (n : Nat) (st : Int) : (rangeI lo n st).length = n := by unfold rangeI; rw [List.length_map, List.length_range]
theorem rgV_eq (a b : Int) : rgV a b = (rangeI a (b - a).toNat 1).map V.int := by
  unfold rgV rangeI
  rw [List.map_map]
  refine List.map_congr_left fun k _ => ?_
  show V.int (a + (k : Int)) = V.int (a + (k : Int) * 1)
  rw [Int.mul_one]
section
variable {X : Cx} {cs : CS} {W : WC} {m ma mb mc : E} {ms : Es} {e a b c o : Expr} {es : List Expr} {pos p p2 apos : Pos}
theorem rng_end {σ : L2.St} {H : Hp} {Q : VK} {P : Addr → Prop} {F : List FP} {T : FP} {e : Env} {i j : Int} {mk : List D → Lv → VI.X} (S : St0 σ e H P F) (q : PX W σ H P T (ofO ((some ((rangeI i (j - i).toNat 1).map D.int)).bind fun ds => if ds.length ≤ sizeLine then some (mk ds .full) else none) e) Q)
    (h1 : -(2 ^ 62) ≤ i) (h2 : i < 2 ^ 62) (h3 : -(2 ^ 62) ≤ j) (h4 : j < 2 ^ 62) : RgOk i j ∧ PX W σ H P T (.ok (mk ((rangeI i (j - i).toNat 1).map D.int) .full) e) Q := by
  obtain ⟨x, hx, q⟩ := ofO_px q
  replace hx : (if ((rangeI i (j - i).toNat 1).map D.int).length ≤ sizeLine then some (mk ((rangeI i (j - i).toNat 1).map D.int) .full) else none) = some x := hx
  split at hx
  · rename_i hz
    cases hx
    refine ⟨⟨h1, h2, h3, h4, ?_⟩, q⟩
    rw [List.length_map, rangeI_len, sizeLine_eq] at hz
    omega
  · cases hx
theorem rng1 {σ : L2.St} {H : Hp} {Q : VK} {mk : List D → Lv → VI.X} {R : Int → Int → Hp → Prop} (h : tI cs W m σ H Q) (hm : ∀ e, evalE cs m e = (evalEs cs (.cons ma .nil) e).bind fun xs e1 => ofO (((derefs e1 xs).bind rangeOf).bind fun ds => if ds.length ≤ sizeLine then some (mk ds .full) else none) e1)
    (hR : ∀ i j e P F T H', St0 σ e H' P F → (∀ a, tot F a ≤ T a) → RgOk i j → PX W σ H' P T (.ok (mk ((rangeI i (j - i).toNat 1).map D.int) .full) e) Q → R i j H') : tRg1 (tI cs W ma) σ H R :=
  tI_mono (part1 (f := fun x e1 => ofO (((derefs e1 [x]).bind rangeOf).bind fun ds => if ds.length ≤ sizeLine then some (mk ds .full) else none) e1) h fun e => by
    rw [hm, evalEs, bind_assoc]
    congr 1) fun v H1 n => by
    obtain ⟨x, e, P, F, f, S, rx, fr, q⟩ := n.one
    replace q : PX W σ H1 P (fa (tot F) f) (ofO (((derefs e [x]).bind rangeOf).bind fun ds => if ds.length ≤ sizeLine then some (mk ds .full) else none) e) Q := q
    cases hx : deref e x with
    | none =>
      rw [show derefs e [x] = none by unfold derefs; rw [hx]] at q
      exact q.elim
    | some d =>
      rw [show derefs e [x] = some [d] by unfold derefs; rw [hx]; rfl] at q
      obtain ⟨l, g, r⟩ := deref_ok S rx hx
      cases d with
      | int j =>
        rw [show (some [D.int j]).bind rangeOf = (if -(2 ^ 62) ≤ j ∧ j < 2 ^ 62 then some ((rangeI 0 j.toNat 1).map .int) else none) from rfl] at q
        split at q
        · rename_i hz
          have e0 : j.toNat = (j - 0).toNat := by omega
          rw [e0] at q
          obtain ⟨ok, q⟩ := rng_end S q (by decide) (by decide) hz.1 hz.2
          exact ⟨j, rep_int r, hR 0 j e P F _ H1 S (fun a => fa_le a) ok q⟩
        · exact q.elim
      | _ => exact q.elim
theorem rng2 {σ : L2.St} {H : Hp} {Q : VK} {mk : List D → Lv → VI.X} {R : Int → Int → Hp → Prop} (h : tI cs W m σ H Q) (hm : ∀ e, evalE cs m e = (evalEs cs (.cons ma (.cons mb .nil)) e).bind fun xs e1 => ofO (((derefs e1 xs).bind rangeOf).bind fun ds => if ds.length ≤ sizeLine then some (mk ds .full) else none) e1)
    (hR : ∀ i j e P F T H', St0 σ e H' P F → (∀ a, tot F a ≤ T a) → RgOk i j → PX W σ H' P T (.ok (mk ((rangeI i (j - i).toNat 1).map D.int) .full) e) Q → R i j H') : tRg2 (tI cs W ma) (tI cs W mb) σ H R :=
  tI_mono (part2 (f := fun x y e1 => ofO (((derefs e1 [x, y]).bind rangeOf).bind fun ds => if ds.length ≤ sizeLine then some (mk ds .full) else none) e1) h fun e => by
    rw [hm, evalEs, bind_assoc]
    congr 1
    funext x e1
    rw [evalEs, bind_assoc, bind_assoc]
    congr 1) fun v H1 h1 => tI_mono h1 fun w H2 n => by
    obtain ⟨x, y, e, P, F, f, g, S, rx, ry, fr, q⟩ := n.two
    replace q : PX W σ H2 P (fa (tot F) (fa f g)) (ofO (((derefs e [x, y]).bind rangeOf).bind fun ds => if ds.length ≤ sizeLine then some (mk ds .full) else none) e) Q := q
    cases hx : deref e x with
    | none =>
      rw [show derefs e [x, y] = none by unfold derefs; rw [hx]] at q
      exact q.elim
    | some d =>
      cases hy : deref e y with
      | none =>
        rw [show derefs e [x, y] = none by unfold derefs derefs; rw [hx, hy]] at q
        exact q.elim
      | some d2 =>
        rw [show derefs e [x, y] = some [d, d2] by unfold derefs derefs; rw [hx, hy]; rfl] at q
        obtain ⟨l, g1, r⟩ := deref_ok S rx hx
        obtain ⟨l2, g2, r2⟩ := deref_ok S ry hy
        cases d with
        | int i =>
          cases d2 with
          | int j =>
            rw [show (some [D.int i, D.int j]).bind rangeOf = (if -(2 ^ 62) ≤ i ∧ i < 2 ^ 62 ∧ -(2 ^ 62) ≤ j ∧ j < 2 ^ 62 then some ((rangeI i (j - i).toNat 1).map .int) else none) from rfl] at q
            split at q
            · rename_i hz
              obtain ⟨ok, q⟩ := rng_end S q hz.1 hz.2.1 hz.2.2.1 hz.2.2.2
              exact ⟨i, j, rep_int r, rep_int r2, hR i j e P F _ H2 S (fun a => fa_le a) ok q⟩
            · exact q.elim
          | _ => exact q.elim
        | _ => exact q.elim
theorem rngL_end {σ : L2.St} {Q : VK} (i j : Int) (e : Env) (P : Addr → Prop) (F : List FP) (T : FP) (H' : Hp) (S : St0 σ e H' P F) (hT : ∀ a, tot F a ≤ T a) (ok : RgOk i j) (q : PX W σ H' P T (.ok (mkL ((rangeI i (j - i).toNat 1).map D.int) .full) e) Q) :
    RgOk i j ∧ ∀ p, H' p = none → Q (.ref p) (upd H' p (.lst (rgV i j))) := ⟨ok, fun p hp => by
  rw [rgV_eq]
  exact PX.newL S (ints_repL _) (by simp) Frm.z (fun a => by simp; exact hT a) q hp⟩
theorem rngT_end {σ : L2.St} {Q : VK} (i j : Int) (e : Env) (P : Addr → Prop) (F : List FP) (T : FP) (H' : Hp) (S : St0 σ e H' P F) (hT : ∀ a, tot F a ≤ T a) (ok : RgOk i j) (q : PX W σ H' P T (.ok (mkT ((rangeI i (j - i).toNat 1).map D.int) .full) e) Q) :
    RgOk i j ∧ ∀ p, H' p = none → Q (.ref p) (upd H' p (.tup (rgV i j))) := ⟨ok, fun p hp => by
  rw [rgV_eq]
  exact PX.newT S (ints_repL _) (by simp) Frm.z (fun a => by simp; exact hT a) q hp⟩
variable {q1 q2 : Pos}
theorem snd_rngL1 (hc : X.calm = true) (g1 : Gl X "list") (m1 : X.mg "list" = none) (g2 : Gl X "range") (m2 : X.mg "range" = none) (ha : Snd X cs W ma a) :
    Snd X cs W (.rngL (.cons ma .nil)) (.Call (.Name "list" p) [.Call (.Name "range" p2) [a] [] q1] [] pos) :=
  .plain rfl rfl (pe_imp (pe_listRg hc g1 m1 (prg_1 g2 m2 ha.pe (plX_star ha.pl _ _))) fun σ H Q h => rng1 h (fun e => by rw [evalE]) rngL_end)
theorem snd_rngL2 (hc : X.calm = true) (g1 : Gl X "list") (m1 : X.mg "list" = none) (g2 : Gl X "range") (m2 : X.mg "range" = none) (ha : Snd X cs W ma a) (hb : Snd X cs W mb b) :
    Snd X cs W (.rngL (.cons ma (.cons mb .nil))) (.Call (.Name "list" p) [.Call (.Name "range" p2) [a, b] [] q1] [] pos) :=
  .plain rfl rfl (pe_imp (pe_listRg hc g1 m1 (prg_2 g2 m2 ha.pe hb.pe (plX_star ha.pl _ _) (plX_star hb.pl _ _) (plX_any (fun y hy => by rw [List.mem_singleton.mp hy]; exact hb.pl) _ _))) fun σ H Q h => rng2 h (fun e => by rw [evalE]) rngL_end)
theorem snd_rngT1 (hc : X.calm = true) (g1 : Gl X "tuple") (m1 : X.mg "tuple" = none) (g2 : Gl X "range") (m2 : X.mg "range" = none) (ha : Snd X cs W ma a) :
    Snd X cs W (.rngT (.cons ma .nil)) (.Call (.Name "tuple" p) [.Call (.Name "range" p2) [a] [] q1] [] pos) :=
  .plain rfl rfl (pe_imp (pe_tupRg hc g1 m1 (prg_1 g2 m2 ha.pe (plX_star ha.pl _ _))) fun σ H Q h => rng1 h (fun e => by rw [evalE]) rngT_end)
theorem snd_rngT2 (hc : X.calm = true) (g1 : Gl X "tuple") (m1 : X.mg "tuple" = none) (g2 : Gl X "range") (m2 : X.mg "range" = none) (ha : Snd X cs W ma a) (hb : Snd X cs W mb b) :
    Snd X cs W (.rngT (.cons ma (.cons mb .nil))) (.Call (.Name "tuple" p) [.Call (.Name "range" p2) [a, b] [] q1] [] pos) :=
  .plain rfl rfl (pe_imp (pe_tupRg hc g1 m1 (prg_2 g2 m2 ha.pe hb.pe (plX_star ha.pl _ _) (plX_star hb.pl _ _) (plX_any (fun y hy => by rw [List.mem_singleton.mp hy]; exact hb.pl) _ _))) fun σ H Q h => rng2 h (fun e => by rw [evalE]) rngT_end)
/-! ### isinstance -/
def tyN : Ty → String
  | .int => "int" | .bool => "bool" | .str => "str" | .list => "list" | .tuple => "tuple" | .dict => "dict"
def tyD : D → String
  | .non => "NoneType" | .bl _ => "bool" | .int _ => "int" | .str _ => "str" | .lst _ => "list" | .tup _ => "tuple" | _ => "dict"
theorem kit_tab {t : Ty} {d : D} {k : Bool} (h : isTy t d = some k) : kitB (tyD d) (tyN t) = some k := by
  cases d <;> cases t <;> first
    | (cases h; dsimp only [tyD, tyN]; decide +kernel)
    | cases h
theorem tyX_ok {K : PySem.W.Frag} {H : Hp} {P : Addr → Prop} {d : D} {l : Lv} {v : V} {f : FP} (h : ∃ t k, isTy t d = some k) (r : RepD H P d l v f) : TyX K H v (.type (tyD d)) := by
  cases d with
  | non => rw [r.1]; exact .base .non
  | bl b => rw [r.1]; exact .base (.bl b)
  | int i => rw [r.1]; exact .base (.int i)
  | str s => rw [r.1]; exact .base (.str s)
  | lst ds =>
    obtain ⟨a, xs, g, rfl, r1, r2⟩ := rep_lst r
    rcases r1 with r1 | ⟨o, r1⟩
    · exact .base (.lst r1)
    · exact .base (.frz r1)
  | tup ds =>
    obtain ⟨a, xs, rfl, r1, r2⟩ := rep_tup r
    rcases r1 with r1 | ⟨o, r1⟩
    · exact .base (.tup r1)
    · exact .fTuple r1
  | dK ds =>
    obtain ⟨a, xs, g', rfl, r1, r2⟩ := rep_dK r
    exact .base (.dK r1)
  | dT ds =>
    obtain ⟨a, xs, g, rfl, q, z⟩ := r
    rcases z with ⟨_, _, z, _⟩ | ⟨_, z, _⟩
    · exact .base (.dT z)
    · exact .base (.dT z)
  | hole => obtain ⟨t, k, h⟩ := h; cases t <;> cases h
theorem ty_boot (t : Ty) : bootBuiltins (Str.ofString (tyN t)) = some (.type (tyN t)) ∧ Str.ofString (tyN t) ≠ "__name__" ∧ (Str.ofString (tyN t) == ("__debug__" : Str)) = false := by
  cases t <;> exact ⟨by with_unfolding_all rfl, by decide +kernel, by decide +kernel⟩
theorem isi_boot : bootBuiltins "isinstance" = some (.builtin "isinstance") := by with_unfolding_all rfl
theorem snd_isin {t : Ty} (g1 : Gl X "isinstance") (m1 : X.mg "isinstance" = none) (g2 : Gl X (Str.ofString (tyN t))) (m2 : X.mg (Str.ofString (tyN t)) = none) (ha : Snd X cs W ma a) :
    Snd X cs W (.isin ma t) (.Call (.Name "isinstance" p) [a, .Name (Str.ofString (tyN t)) p2] [] pos) := by
  obtain ⟨h1, h2, h3⟩ := ty_boot t
  refine .plain rfl rfl (pe_imp (pe_callAny (id := "isinstance") (t := tCons (tI cs W ma) (tCons (tC (.ty (tyN t))) tNil)) call_isi (.inl rfl) g1 m1 isi_boot (pa_cons ha.pe (pa_cons (pe_bltn g2 m2 h1 (show RelV (.ty (tyN t)) (.type (tyN t)) from rfl) h2 h3) pa_nil rfl) (plX_star ha.pl _ _)) (by decide +kernel) (by decide +kernel) fun y hy => ?_) fun σ H Q h' => ?_)
  · rcases List.mem_cons.mp hy with rfl | hy
    · exact ha.pl
    · rw [List.mem_singleton.mp hy]; rfl
  · refine tI_mono (part1 h' fun _ => by rw [evalE]) fun v H1 n => ?_
    obtain ⟨x, e, P, F, f, S, rx, fr, q⟩ := n.one
    replace q : PX W σ H1 P (fa (tot F) f) (ofO (((deref e x).bind (isTy t)).map fun b => im (.bl b)) e) Q := q
    obtain ⟨z, hz, q⟩ := ofO_px q
    obtain ⟨k, hk, e2⟩ := Option.map_eq_some_iff.mp hz
    subst e2
    obtain ⟨d, hd, hk⟩ := Option.bind_eq_some_iff.mp hk
    obtain ⟨l, g, r⟩ := deref_ok S rx hd
    exact ⟨v, .ty (tyN t), .type (tyD d), .type (tyN t), k, rfl, .ty _, tyX_ok ⟨t, k, hk⟩ r, kit_ty (kit_tab hk), q.val (d := .bl k) S (fun a => fa_le a) ⟨rfl, rfl⟩⟩
end
end VI
namespace VI
open PySem PySem.Spec PyProof.Rows L2
/-! ### a slot's own object is changed -/
def isTup : HO → Bool
  | .tup _ => true
  | .frz _ _ => true
  | _ => false
section
variable {σ : L2.St} {e : Env} {H : Hp} {P : Addr → Prop} {F : List FP} {f g g' r : FP} {a : Addr} {o o' : HO} {i : Nat} {d : D} {l : Lv}
theorem rd_mut {xs : List V} {b : Addr} (ha : H a = some o) (hn : isTup o = false) (h : Rd H b (.tup xs)) : b ≠ a := by
  intro e
  subst e
  rcases h with h | ⟨u, h⟩
  · rw [ha] at h; cases h; cases hn
  · rw [ha] at h; cases h; cases hn
theorem car_mut (ha : H a = some o) (hn : isTup o = false) (hp : ¬ P a) (hg : g a = 0) : Car H (upd H a o') P P g :=
  ⟨fun b u z q => by rw [upd_ne (fun e => by subst e; omega)]; exact q, fun b u z q => by rw [upd_ne (fun e => by subst e; exact hp z)]; exact q, fun b xs h => by
    have hb := rd_mut ha hn h
    rcases h with h | ⟨u, h⟩
    · exact .inl (by rw [upd_ne hb]; exact h)
    · exact .inr ⟨u, by rw [upd_ne hb]; exact h⟩, fun _ z => z⟩
theorem St0.mut (S : St0 σ e H P F) (hs : σ[i]? = some (some (.ref a))) (hf : F[i]? = some (fa (fo a) g)) (hi : i < e.length) (ha : H a = some o) (hn : isTup o = false) (fr : Frm f H P (tot F))
    (q : RepD (upd H a o') P d l (.ref a) (fa (fo a) g')) (hb : ∀ b, g' b + r b ≤ g b + f b) :
    St0 σ (e.set i (.own d l)) (upd H a o') P (F.set i (fa (fo a) g')) ∧ Frm r (upd H a o') P (tot (F.set i (fa (fo a) g'))) ∧ Stp H P (fa (tot F) f) (upd H a o') P (fa (tot (F.set i (fa (fo a) g'))) r) := by
  have t1 : ∀ b, tot (F.set i (fa (fo a) g')) b + (fo a b + g b) = tot F b + (fo a b + g' b) := fun b => tot_set (fa (fo a) g') b hf
  have t0 : ∀ b, tot (F.set i fz) b + (fo a b + g b) = tot F b := fun b => by simpa using tot_set fz b hf
  have a1 : tot F a = 1 := by have := S.one a; have := t0 a; rw [fo_same] at this; omega
  have hpa : ¬ P a := fun z => by have := S.sep a z; omega
  have rel0 : Rels (upd H a o') P σ (e.set i .none) (F.set i fz) := by
    have := Rels.kill (i := i) (some (V.ref a)) S.rel
    rw [set_get_self hs] at this
    exact Rels.car (car_mut ha hn hpa (by have := t0 a; rw [fo_same] at this; omega)) this
  have rel : Rels (upd H a o') P σ (e.set i (.own d l)) (F.set i (fa (fo a) g')) := by
    have := Rels.put rel0 (by rw [List.length_set]; exact hi) q
    rwa [set_get_self hs, List.set_set, List.set_set] at this
  have fz1 : ∀ b, f b + tot F b ≤ 1 := fun b => by
    by_cases z : 1 ≤ f b
    · obtain ⟨z1, z2, _, _⟩ := fr b z; omega
    · have := S.one b; omega
  have inH : ∀ b, H b ≠ none → upd H a o' b ≠ none := fun b z => by
    by_cases e : b = a
    · subst e; rw [upd_same]; simp
    · rw [upd_ne e]; exact z
  have dm : ∀ b, 1 ≤ fa (tot F) f b → H b ≠ none := fun b z => by
    simp at z
    by_cases y : 1 ≤ tot F b
    · exact S.inT b y
    · exact (fr b (by omega)).2.2.2
  refine ⟨⟨rel, fun b => ?_, fun b z => ?_, fun b z => inH b (S.inP b z), fun b z => inH b (dm b ?_)⟩, fun b z => ?_, ?_, ?_, ?_, fun _ z => z, ?_, inH⟩
  · have := t1 b; have := hb b; have := fz1 b; omega
  · have := S.sep b z; have := t1 b; have := hb b
    have : f b = 0 := Nat.eq_zero_of_not_pos fun y => (fr b y).2.2.1 z
    omega
  · have := t1 b; have := hb b; simp; omega
  · have := t1 b; have := hb b; have := fz1 b
    refine ⟨by omega, by omega, fun y => ?_, inH b (dm b (by simp; omega))⟩
    have := S.sep b y
    have : f b = 0 := Nat.eq_zero_of_not_pos fun y' => (fr b y').2.2.1 y
    omega
  · intro b u z y
    have : b ≠ a := fun e => by subst e; simp at y; omega
    rw [upd_ne this]; exact z
  · exact (car_mut (P := P) (g := fz) (o' := o') ha hn hpa rfl).tup
  · intro b z
    exact .inl z
  · intro b z
    have := t1 b; have := hb b
    refine .inl ?_
    simp at z ⊢; omega
/-- the list in a slot that owns it -/
theorem St0.lst (S : St0 σ e H P F) {ds : List D} (h : gt e i = .own (.lst ds) l) (hl : l ≠ .sh) : ∃ a xs g, σ[i]? = some (some (.ref a)) ∧ F[i]? = some (fa (fo a) g) ∧ i < e.length ∧ H a = some (.lst xs) ∧ RepL H P ds l.pred xs g ∧ ¬ P a ∧ g a = 0 := by
  obtain ⟨v, f, h1, h2, h3⟩ := S.rel.get (gt_own h)
  obtain ⟨a, xs, g, rfl, q, z⟩ := h3
  rcases z with ⟨z, _⟩ | ⟨_, e3, e4⟩
  · exact absurd z hl
  · subst e4
    have h5 : 1 ≤ tot F a := by have := tot_le a h2; simp [fo_same] at this; omega
    refine ⟨a, xs, g, h1, h2, (List.getElem?_eq_some_iff.mp (gt_own h)).1, e3, q, fun z => ?_, ?_⟩
    · have := S.sep a z; omega
    · have h6 := tot_le a h2
      have h7 := S.one a
      simp [fo_same] at h6
      omega
/-- an item taken out -/
theorem RepL.erase {H : Hp} {P : Addr → Prop} : ∀ {ds : List D} {l : Lv} {xs : List V} {f : FP} {j : Nat} {d : D}, RepL H P ds l xs f → ds[j]? = some d →
    ∃ v g h, xs[j]? = some v ∧ RepD H P d l v g ∧ RepL H P (ds.eraseIdx j) l (xs.eraseIdx j) h ∧ f = fa g h
  | [], _, _, _, _, _, _, e => by simp at e
  | c :: ds, l, _, _, 0, d, q, e => by
    obtain ⟨v, r, f1, f2, e1, h1, h2, e2⟩ := q
    simp at e
    subst e e1 e2
    exact ⟨v, f1, f2, rfl, h1, h2, rfl⟩
  | c :: ds, l, _, _, j + 1, d, q, e => by
    obtain ⟨v, r, f1, f2, e1, h1, h2, e2⟩ := q
    subst e1 e2
    obtain ⟨v', g, h, z1, z2, z3, z4⟩ := RepL.erase h2 (by simpa using e)
    subst z4
    exact ⟨v', g, fa f1 h, by simpa using z1, z2, ⟨v, r.eraseIdx j, f1, h, rfl, h1, z3, rfl⟩, by rw [← fa_assoc, fa_comm f1 g, fa_assoc]⟩
end
section
variable {X : Cx} {cs : CS} {W : WC} {m ma mb mc : E} {ms : Es} {e a b c o : Expr} {es : List Expr} {pos p p2 apos : Pos}
theorem pop_ok {i : Nat} {oi : Option Int} {σ : L2.St} {H : Hp} {Q : VK} {e : Env} {P : Addr → Prop} {F : List FP} {f : FP} {T : FP} (S : St0 σ e H P F) (fr : Frm f H P (tot F)) (hT : ∀ b, fa (tot F) f b ≤ T b) (q : PX W σ H P T (popX i oi e) Q) :
    ∃ a xs j y, σ[i]? = some (some (.ref a)) ∧ H a = some (.lst xs) ∧ seqIndex? (oi.getD (-1)) xs.length = some j ∧ -(2 ^ 63) ≤ oi.getD (-1) ∧ oi.getD (-1) < 2 ^ 63 ∧ xs[j]? = some y ∧ Q y (upd H a (.lst (xs.eraseIdx j))) := by
  unfold popX at q
  split at q
  · rename_i ds l hg
    split at q
    · exact q.elim
    rename_i hl
    obtain ⟨a, xs, g, h1, h2, h3, h4, h5, h6, h7⟩ := S.lst hg hl
    split at q
    · rename_i j hj
      split at q
      · rename_i d hd
        split at q
        · rename_i hz
          obtain ⟨y, gy, gr, z1, z2, z3, z4⟩ := h5.erase hd
          subst z4
          have ga : gy a = 0 ∧ gr a = 0 := by simp at h7; exact h7
          have c1 := car_mut (P := P) (g := gr) (o' := .lst (xs.eraseIdx j)) h4 rfl h6 ga.2
          have c2 := car_mut (P := P) (g := gy) (o' := .lst (xs.eraseIdx j)) h4 rfl h6 ga.1
          have qn : RepD (upd H a (.lst (xs.eraseIdx j))) P (.lst (ds.eraseIdx j)) l (.ref a) (fa (fo a) gr) := ⟨a, xs.eraseIdx j, gr, rfl, z3.car c1, .inr ⟨hl, upd_same, rfl⟩⟩
          obtain ⟨S', fr', st'⟩ := S.mut (r := fa gy f) h1 h2 h3 h4 rfl fr qn (fun b => by simp; omega)
          refine ⟨a, xs, j, y, h1, h4, by rw [h5.len]; exact hj, hz.1, hz.2, z1, ?_⟩
          by_cases hi : imm d = true
          · rw [if_pos hi] at q
            refine q y _ P _ fz S' (RepD.imm (P' := P) .full hi (z2.car c2)).2 Frm.z (st'.mono hT fun b => by simp)
          · rw [if_neg hi] at q
            refine q y _ P _ gy S' (z2.car c2) (fr'.mono fun b => by simp) (st'.mono hT fun b => by simp)
        · exact q.elim
      · exact q.elim
    · exact q.elim
  · exact q.elim
theorem snd_pop0 {i : Nat} {x : Str} (hN : X.N[i]? = some x) (hv : Vis X.env.scope x) (hd : (x == ("__debug__" : Str)) = false) (hcd : (x == ("__classdict__" : Str)) = false) (hl : (apos.endLine == pos.line) = true) : Snd X cs W (.pop i .no) (.Call (.Attribute (.Name x p) "pop" apos) [] [] pos) :=
  .plain rfl rfl (pe_imp (pe_bm0 PySem.F.plainAttrs_list PySem.F.slot_list_pop PySem.F.type_list_pop mt_pop (pe_var hN hv hd hcd) (naB_ok rfl _ _ _) hl) fun σ H Q h => by
    obtain ⟨e, P, F, S, q⟩ := h
    rw [evalE] at q
    split at q
    · rw [evalO] at q
      obtain ⟨a, xs, j, y, h1, h2, h3, h4, h5, h6, h7⟩ := pop_ok S (Frm.z (H := H) (P := P)) (fun b => by simp) (show PX W σ H P (tot F) (popX i none e) Q from q)
      have hlt := (List.getElem?_eq_some_iff.mp h6).1
      have hj : j = xs.length - 1 := by
        rw [seqIndex_neg (by decide) (by show -(xs.length : Int) ≤ (-1 : Int); omega)] at h3
        have := Option.some.inj h3
        have e : (((none : Option Int).getD (-1)) + (xs.length : Int)).toNat = xs.length - 1 := by show ((-1 : Int) + (xs.length : Int)).toNat = _; omega
        rw [e] at this
        exact this.symm
      subst hj
      refine ⟨.ref a, h1, .inl ⟨rfl, xs, .inl (.inl h2)⟩, a, xs, y, rfl, rfl, h2, h6, ?_⟩
      have e : xs.eraseIdx (xs.length - 1) = xs.dropLast := by
        rw [List.eraseIdx_length_sub_one]
      rw [← e]; exact h7
    · exact q.elim)
theorem snd_pop {i : Nat} {x : Str} (hN : X.N[i]? = some x) (hv : Vis X.env.scope x) (hd : (x == ("__debug__" : Str)) = false) (hcd : (x == ("__classdict__" : Str)) = false) (ha : Snd X cs W ma a) (hl : (apos.endLine == pos.line) = true) : Snd X cs W (.pop i (.so ma)) (.Call (.Attribute (.Name x p) "pop" apos) [a] [] pos) :=
  have pl : ∀ y ∈ [a], plX y = true := fun y hy => by rw [List.mem_singleton.mp hy]; exact ha.pl
  .plain rfl rfl (pe_imp (pe_bm PySem.F.plainAttrs_list PySem.F.slot_list_pop PySem.F.type_list_pop mt_popAt (pe_var hN hv hd hcd) (pa_cons ha.pe pa_nil (plX_star ha.pl _ _)) (naB_ok rfl _ _ _) (plX_few _ _ pl (by simp)) hl (plX_star ha.pl _ _) rfl) fun σ H Q h => by
    obtain ⟨e, P, F, S, q⟩ := h
    rw [evalE] at q
    split at q
    · rename_i ds l hg
      obtain ⟨v, f, h1, h2, h3⟩ := S.rel.get (gt_own hg)
      obtain ⟨a, xs, g, rfl, r1, r2⟩ := rep_lst h3
      refine ⟨.ref a, h1, .inl ⟨rfl, xs, .inl r1⟩, ?_⟩
      have n : Ns W σ [] H (fun _ e => (evalO cs (.so ma) e).bind fun o e1 => popX i o e1) Q := ⟨[], e, P, F, fz, S, ⟨rfl, rfl⟩, Frm.z, by rw [fa_z]; exact q⟩
      have n2 := n.nextO (cs := cs) (o := .so ma) (G' := fun o _ e1 => popX i o e1) fun _ _ _ => rfl
      refine tI_mono (tOI_some n2) fun w H1 ⟨k, ew, n3⟩ => ?_
      obtain ⟨xs1, e1, P1, F1, f1, S1, rx1, fr1, q1⟩ := n3
      obtain ⟨a', xs', j, y, z1, z2, z3, z4, z5, z6, z7⟩ := pop_ok S1 fr1 (fun b => Nat.le_refl _) q1
      rw [h1] at z1
      cases z1
      exact ⟨a, xs', k, j, y, rfl, by rw [ew], z2, z4, z5, z3, z6, z7⟩
    · exact q.elim)
end
end VI
/-! unpacking a list -/
namespace VI
open PySem PySem.Spec PyProof PyProof.Rows L2
section
variable {prog : Program} {w : World} {A : Around} {E : Value → Shared → Prop} {s : Shared}
theorem draw_list {it t : Addr} {items : Array Value} (hne : t ≠ it) : ∀ (n i : Nat) (s : Shared) (Q : List Value → Shared → Prop), s.heap.IsListIter it t i → s.heap.IsList t items → i + n ≤ items.size →
    (∀ h' : Heap, h'.IsListIter it t (i + n) → Heap.SameBut it s.heap h' → Q ((items.toList.drop i).take n) { s with heap := h' }) → wpAny (model prog w) A (draw (.ref it) n) Q E s
  | 0, i, s, Q, hit, _, _, hQ => by
    show wpAny _ _ (pure []) Q E s
    exact wpAny_pure (by simpa using hQ s.heap hit (Heap.SameBut.refl ..))
  | n + 1, i, s, Q, hit, ht, hle, hQ => by
    have hlt : i < items.size := by omega
    show wpAny _ _ (pyNext (.ref it) >>= _) Q E s
    refine wpAny_bind (wpAny_pyNext_list_item hit ht (x := items[i]) (by simp [hlt]) fun h₁ hit₁ hs₁ => ?_)
    refine wpAny_bind (wpAny_holding (draw_list hne n (i + 1) _ _ hit₁ (ht.extBut hs₁.extBut hne) (by omega) fun h₂ hit₂ hs₂ => wpAny_pure ?_))
    have hd : items.toList.drop i = items[i] :: items.toList.drop (i + 1) := by simp [List.drop_eq_getElem_cons, hlt]
    have := hQ h₂ (by rw [show i + (n + 1) = i + 1 + n by omega]; exact hit₂) (hs₁.trans hs₂)
    rw [hd, List.take_succ_cons] at this
    exact this
theorem unpackItems_list {t : Addr} {items : Array Value} {Q : List Value → Shared → Prop} (hh : A.handled = none) (ht : s.heap.IsList t items)
    (hQ : ∀ h', Heap.ExtBut s.heap.objs.size s.heap h' → Q items.toList { s with heap := h' }) : wpAny (model prog w) A (unpackItems (.ref t) items.size none) Q E s := by
  have hlt : t ≠ s.heap.objs.size := by obtain ⟨o, ho, _⟩ := ht; exact Nat.ne_of_lt (Heap.lt_size ho)
  unfold unpackItems
  refine wpAny_bind ?_
  · unfold notIterableAtAll
    refine wpAny_bind (wpAny_specialOf ht.typeIs slot_list_iter.lookup ?_)
    refine wpAny_pure ?_
    simp only [Bool.false_eq_true, if_false]
    refine wpAny_bind (wpAny_holding (wpAny_pyIter_list ht ?_))
    refine wpAny_bind (wpAny_holding (draw_list hlt items.size 0 _ _ ⟨_, Heap.get?_push_size _ rfl, rfl, rfl⟩ (ht.push _) (by omega) fun h₁ hit₁ hs₁ => ?_))
    have hall : List.take items.size (List.drop 0 items.toList) = items.toList := by
      rw [List.drop_zero]; exact List.take_of_length_le (by simp)
    rw [hall]
    rw [if_neg (by simp)]
    have ht₁ : h₁.IsList t items := (ht.push _).extBut hs₁.extBut hlt
    refine wpAny_bind (wpAny_holding (wpAny_pyNext_list_end hh hit₁ ht₁ (by simp) fun h₂ he₂ => ?_))
    simp only [Option.isSome_none, Bool.false_eq_true, if_false]
    refine wpAny_pure (hQ h₂ fun b o hb e => he₂ b o hb (hs₁.extBut b o hb (Heap.get?_push_of_some _ e)))
theorem unpack_list {t : Addr} {items : Array Value} {targets : List (Bool × (Value → Sem Unit))} {Q : Unit → Shared → Prop} (hh : A.handled = none) (ht : s.heap.IsList t items)
    (hn : targets.length = items.size) (hstar : targets.findIdx? (·.1) = none)
    (h : ∀ h', Heap.ExtBut s.heap.objs.size s.heap h' → wpAny (model prog w) A (assignInOrder (targets.map (·.2)) items.toList) Q E { s with heap := h' }) :
    wpAny (model prog w) A (unpack (.ref t) targets) Q E s := by
  unfold unpack
  rw [hn, hstar]
  exact wpAny_bind (wpAny_holding (unpackItems_list hh ht h))
theorem assign_Tuple_list {env : PySem.Env} {elts : List Expr} {x1} {pos : Pos} {t : Addr} {items : Array Value} {Q : Unit → Shared → Prop} (hh : A.handled = none) (ht : s.heap.IsList t items)
    (hn : (assignEach elts env).length = items.size) (hstar : (assignEach elts env).findIdx? (·.1) = none)
    (h : ∀ h', Heap.ExtBut s.heap.objs.size s.heap h' → wpAny (model prog w) A (assignInOrder ((assignEach elts env).map (·.2)) items.toList) Q E { s with heap := h' }) :
    wpAny (model prog w) A (assign (.Tuple elts x1 pos) env (.ref t)) Q E s := by
  rw [assign_Tuple]
  exact wpAny_bind (wpAny_standAt (unpack_list hh ht hn hstar h))
end
/-- (a, b, ..) = a tuple or a list of that length -/
def gSeq (K : PySem.W.Frag) (n : Nat) (t : TGs) : TG := fun v σ H Q => ∃ a xs, v = .ref a ∧ (SqT K H a xs ∨ Rd H a (.lst xs)) ∧ xs.length = n ∧ t xs σ H Q
section
variable {X : Cx} {pos : Pos}
theorem pg_seq {es : List Expr} {k : Nat} {t : TGs} {n : Nat} (hc : X.calm = true) (h : PGs X es t)
    (hn : (assignEach es X.env).length = n := by rfl) (hst : (assignEach es X.env).findIdx? (·.1) = none := by rfl) : PG X (.Tuple es k pos) (gSeq X.K n t) := by
  refine ⟨fun pins s σ H v u Q I r hw => ?_⟩
  obtain ⟨a, xs, e1, hq, hl, hw⟩ := hw
  subst e1
  rcases hq with hq | hq
  · exact (pg_tup hc h hn hst).run pins s σ H _ u Q I r ⟨a, xs, rfl, hq, hl, hw⟩
  · cases r
    obtain ⟨z, its, nn, rv, ht⟩ := hq.ok I.hok
    refine assign_Tuple_list (items := its.toArray) (I.ok.hd hc) ⟨_, ht, rfl, nn, rfl⟩ (by simp [hn, ← hl, rv.length]) hst fun h' hx => ?_
    have I1 : Inv X pins σ H { s with heap := h' } := I.kept (t' := s.toks) fun b o e => hx b o (Nat.ne_of_lt (Heap.lt_size e)) e
    exact h.run pins _ σ H xs _ Q I1 (by simpa using rv) hw
end
end VI
namespace VI
open PySem PySem.Spec PyProof.Rows L2
/-! ### slots, place by place -/
section
variable {H : Hp} {P : Addr → Prop}
theorem Rels.ext : ∀ {σ : L2.St} {e : Env} {F : List FP}, σ.length = e.length → F.length = e.length → (∀ i : Nat, e[i]? = some Slot.none → F[i]? = some fz) →
    (∀ (i : Nat) (d : D) (l : Lv), e[i]? = some (Slot.own d l) → ∃ v f, σ[i]? = some (some v) ∧ F[i]? = some f ∧ RepD H P d l v f) → Rels H P σ e F
  | [], [], [], _, _, _, _ => trivial
  | [], _ :: _, _, h, _, _, _ => by simp at h
  | _ :: _, [], _, h, _, _, _ => by simp at h
  | [], [], _ :: _, _, h, _, _ => by simp at h
  | _ :: _, _ :: _, [], _, h, _, _ => by simp at h
  | o :: σ, .none :: e, f :: F, h1, h2, h3, h4 => by
    have := h3 0 rfl
    refine ⟨by simpa using this, Rels.ext (by simpa using h1) (by simpa using h2) (fun i q => by simpa using h3 (i + 1) (by simpa using q)) fun i d l q => by simpa using h4 (i + 1) d l (by simpa using q)⟩
  | some v :: σ, .own d l :: e, f :: F, h1, h2, h3, h4 => by
    obtain ⟨v', f', z1, z2, z3⟩ := h4 0 d l rfl
    simp at z1 z2
    subst z1 z2
    exact ⟨z3, Rels.ext (by simpa using h1) (by simpa using h2) (fun i q => by simpa using h3 (i + 1) (by simpa using q)) fun i d l q => by simpa using h4 (i + 1) d l (by simpa using q)⟩
  | none :: σ, .own d l :: e, f :: F, h1, h2, h3, h4 => by
    obtain ⟨v', f', z1, z2, z3⟩ := h4 0 d l rfl
    simp at z1
end
/-! ### targets -/
def tGr (K : PySem.W.Frag) : G → TG
  | .nm i => gName i
  | .two a b => gSeq K 2 (gCons (tGr K a) (gCons (tGr K b) gNil))
  | .thr a b c => gSeq K 3 (gCons (tGr K a) (gCons (tGr K b) (gCons (tGr K c) gNil)))
  | .fou a b c d => gSeq K 4 (gCons (tGr K a) (gCons (tGr K b) (gCons (tGr K c) (gCons (tGr K d) gNil))))
section
variable {H : Hp} {P : Addr → Prop} {K : PySem.W.Frag}
theorem tot_le_set {F : List FP} {i : Nat} {f : FP} (hi : i < F.length) (a : Addr) : tot (F.set i f) a ≤ tot F a + f a := by
  obtain ⟨g, hg⟩ : ∃ g, F[i]? = some g := ⟨F[i], List.getElem?_eq_getElem hi⟩
  have := tot_set f a hg
  omega
/-- a slot gets a datum that is no slot's -/
theorem St0.bind {σ : L2.St} {e : Env} {F : List FP} {i : Nat} {d : D} {l : Lv} {v : V} {f : FP} (S : St0 σ e H P F) (q : RepD H P d l v f) (fr : Frm f H P (tot F)) (hi : i < e.length) :
    St0 (σ.set i (some v)) (e.set i (.own d l)) H P (F.set i f) ∧ ∀ a, tot (F.set i f) a ≤ tot F a + f a := by
  have hl := S.rel.len.2
  have t : ∀ a, tot (F.set i f) a ≤ tot F a + f a := fun a => tot_le_set (by omega) a
  have fz1 : ∀ b, f b + tot F b ≤ 1 := fun b => by
    by_cases z : 1 ≤ f b
    · obtain ⟨z1, z2, _, _⟩ := fr b z; omega
    · have := S.one b; omega
  refine ⟨⟨S.rel.put hi q, fun a => by have := t a; have := fz1 a; omega, fun a z => ?_, S.inP, fun a z => ?_⟩, t⟩
  · have := S.sep a z; have := t a
    have : f a = 0 := Nat.eq_zero_of_not_pos fun y => (fr a y).2.2.1 z
    omega
  · have := t a
    by_cases y : 1 ≤ tot F a
    · exact S.inT a y
    · exact (fr a (by omega)).2.2.2
theorem bind_ok : ∀ (g : G) {σ : L2.St} {e e' : Env} {F : List FP} {d : D} {l : Lv} {v : V} {f : FP} {Q : L2.St → Hp → Prop}, St0 σ e H P F → RepD H P d l v f → Frm f H P (tot F) → bindG g d l e = some e' →
    (∀ σ' F', St0 σ' e' H P F' → (∀ a, tot F' a ≤ tot F a + f a) → (∀ j, j ∉ g.slots → σ'[j]? = σ[j]?) → Q σ' H) → tGr K g v σ H Q
  | .nm i, σ, e, e', F, d, l, v, f, Q, S, q, fr, h, k => by
    have h' : (if i < e.length then some (e.set i (.own d (if imm d then .full else l))) else none) = some e' := h
    split at h'
    · rename_i hi
      injection h' with h'
      subst h'
      have ne : ∀ j, j ∉ (G.nm i).slots → (σ.set i (some v))[j]? = σ[j]? := fun j hj => by
        have : i ≠ j := fun e => hj (by rw [e]; exact List.mem_cons_self)
        rw [List.getElem?_set_ne this]
      by_cases im : imm d = true
      · rw [if_pos im] at k
        obtain ⟨_, q'⟩ := RepD.imm (P' := P) .full im q
        obtain ⟨S', t⟩ := S.bind q' Frm.z hi
        exact k _ _ S' (fun a => Nat.le_trans (t a) (by simp)) ne
      · rw [if_neg im] at k
        obtain ⟨S', t⟩ := S.bind q fr hi
        exact k _ _ S' t ne
    · cases h'
  | .two a b, σ, e, e', F, d, l, v, f, Q, S, q, fr, h, k => by
    unfold bindG at h
    split at h <;> rename_i he <;> try (cases he; done)
    · rename_i d1 d2 _
      cases he
      obtain ⟨p, xs, rfl, r1, r2⟩ := rep_tup q
      obtain ⟨v1, xs1, f1, g1, rfl, h1, ⟨v2, xs2, f2, g2, rfl, h2, ⟨rfl, rfl⟩, rfl⟩, rfl⟩ := r2
      rw [fa_z] at fr k
      obtain ⟨e1, b1, b2⟩ := Option.bind_eq_some_iff.mp h
      refine ⟨p, _, rfl, .inl (.inl r1), rfl, v1, [v2], rfl, ?_⟩
      refine bind_ok a S h1 fr.fst b1 fun σ1 F1 S1 t1 k1 => ⟨v2, [], rfl, ?_⟩
      have fr2 : Frm f2 H P (tot F1) := fr.right.less t1
      refine bind_ok b S1 h2 fr2 b2 fun σ2 F2 S2 t2 k2 => ⟨rfl, ?_⟩
      exact k σ2 F2 S2 (fun c => by have := t1 c; have := t2 c; simp; omega) fun j hj => by
        have hj' : j ∉ a.slots ∧ j ∉ b.slots := by simpa [G.slots] using hj
        rw [k2 j hj'.2, k1 j hj'.1]
    · rename_i d1 d2 _
      cases he
      obtain ⟨p, xs, g, rfl, r1, r2, hle⟩ := rep_lstF q
      obtain ⟨v1, xs1, f1, g1, rfl, h1, ⟨v2, xs2, f2, g2, rfl, h2, ⟨rfl, rfl⟩, rfl⟩, rfl⟩ := r2
      rw [fa_z] at hle
      replace fr : Frm (fa f1 f2) H P (tot F) := fr.mono hle
      replace k : ∀ σ' F', St0 σ' e' H P F' → (∀ a, tot F' a ≤ tot F a + fa f1 f2 a) → (∀ j, j ∉ (G.two a b).slots → σ'[j]? = σ[j]?) → Q σ' H := fun σ' F' S' t' n' => k σ' F' S' (fun a => Nat.le_trans (t' a) (Nat.add_le_add_left (hle a) _)) n'
      obtain ⟨e1, b1, b2⟩ := Option.bind_eq_some_iff.mp h
      refine ⟨p, _, rfl, .inr r1, rfl, v1, [v2], rfl, ?_⟩
      refine bind_ok a S h1 fr.fst b1 fun σ1 F1 S1 t1 k1 => ⟨v2, [], rfl, ?_⟩
      have fr2 : Frm f2 H P (tot F1) := fr.right.less t1
      refine bind_ok b S1 h2 fr2 b2 fun σ2 F2 S2 t2 k2 => ⟨rfl, ?_⟩
      exact k σ2 F2 S2 (fun c => by have := t1 c; have := t2 c; simp; omega) fun j hj => by
        have hj' : j ∉ a.slots ∧ j ∉ b.slots := by simpa [G.slots] using hj
        rw [k2 j hj'.2, k1 j hj'.1]
    · cases h
  | .thr a b c, σ, e, e', F, d, l, v, f, Q, S, q, fr, h, k => by
    unfold bindG at h
    split at h <;> rename_i he <;> try (cases he; done)
    · rename_i d1 d2 d3 _
      cases he
      obtain ⟨p, xs, rfl, r1, r2⟩ := rep_tup q
      obtain ⟨v1, xs1, f1, g1, rfl, h1, ⟨v2, xs2, f2, g2, rfl, h2, ⟨v3, xs3, f3, g3, rfl, h3, ⟨rfl, rfl⟩, rfl⟩, rfl⟩, rfl⟩ := r2
      rw [fa_z] at fr k
      obtain ⟨e1, b1, b2⟩ := Option.bind_eq_some_iff.mp h
      obtain ⟨e2, b2, b3⟩ := Option.bind_eq_some_iff.mp b2
      refine ⟨p, _, rfl, .inl (.inl r1), rfl, v1, [v2, v3], rfl, ?_⟩
      refine bind_ok a S h1 fr.fst b1 fun σ1 F1 S1 t1 k1 => ⟨v2, [v3], rfl, ?_⟩
      have fr2 : Frm (fa f2 f3) H P (tot F1) := fr.right.less t1
      refine bind_ok b S1 h2 fr2.fst b2 fun σ2 F2 S2 t2 k2 => ⟨v3, [], rfl, ?_⟩
      have fr3 : Frm f3 H P (tot F2) := fr2.right.less t2
      refine bind_ok c S2 h3 fr3 b3 fun σ3 F3 S3 t3 k3 => ⟨rfl, ?_⟩
      exact k σ3 F3 S3 (fun c => by have := t1 c; have := t2 c; have := t3 c; simp; omega) fun j hj => by
        have hj' : j ∉ a.slots ∧ j ∉ b.slots ∧ j ∉ c.slots := by simpa [G.slots] using hj
        rw [k3 j hj'.2.2, k2 j hj'.2.1, k1 j hj'.1]
    · cases h
  | .fou a b c z, σ, e, e', F, d, l, v, f, Q, S, q, fr, h, k => by
    unfold bindG at h
    split at h <;> rename_i he <;> try (cases he; done)
    · rename_i d1 d2 d3 d4 _
      cases he
      obtain ⟨p, xs, rfl, r1, r2⟩ := rep_tup q
      obtain ⟨v1, xs1, f1, g1, rfl, h1, ⟨v2, xs2, f2, g2, rfl, h2, ⟨v3, xs3, f3, g3, rfl, h3, ⟨v4, xs4, f4, g4, rfl, h4, ⟨rfl, rfl⟩, rfl⟩, rfl⟩, rfl⟩, rfl⟩ := r2
      rw [fa_z] at fr k
      obtain ⟨e1, b1, b2⟩ := Option.bind_eq_some_iff.mp h
      obtain ⟨e2, b2, b3⟩ := Option.bind_eq_some_iff.mp b2
      obtain ⟨e3, b3, b4⟩ := Option.bind_eq_some_iff.mp b3
      refine ⟨p, _, rfl, .inl (.inl r1), rfl, v1, [v2, v3, v4], rfl, ?_⟩
      refine bind_ok a S h1 fr.fst b1 fun σ1 F1 S1 t1 k1 => ⟨v2, [v3, v4], rfl, ?_⟩
      have fr2 : Frm (fa f2 (fa f3 f4)) H P (tot F1) := fr.right.less t1
      refine bind_ok b S1 h2 fr2.fst b2 fun σ2 F2 S2 t2 k2 => ⟨v3, [v4], rfl, ?_⟩
      have fr3 : Frm (fa f3 f4) H P (tot F2) := fr2.right.less t2
      refine bind_ok c S2 h3 fr3.fst b3 fun σ3 F3 S3 t3 k3 => ⟨v4, [], rfl, ?_⟩
      have fr4 : Frm f4 H P (tot F3) := fr3.right.less t3
      refine bind_ok z S3 h4 fr4 b4 fun σ4 F4 S4 t4 k4 => ⟨rfl, ?_⟩
      exact k σ4 F4 S4 (fun c => by have := t1 c; have := t2 c; have := t3 c; have := t4 c; simp; omega) fun j hj => by
        have hj' : j ∉ a.slots ∧ j ∉ b.slots ∧ j ∉ c.slots ∧ j ∉ z.slots := by simpa [G.slots] using hj
        rw [k4 j hj'.2.2.2, k3 j hj'.2.2.1, k2 j hj'.2.1, k1 j hj'.1]
    · cases h
end
end VI
namespace VI
open PySem PySem.Spec PyProof.Rows L2
/-! ### what is walked -/
def New (H H' : Hp) : Prop := H' = H ∨ ∃ p xs, H p = none ∧ H' = upd H p (.tup xs)
structure Wk (J : L2.It) (R : List (D × Lv) → Nat → Hp → (Addr → Prop) → FP → Prop) : Prop where
  car : ∀ {ps : List (D × Lv)} {i : Nat} {H H' : Hp} {P P' : Addr → Prop} {f T T' : FP}, R ps i H P f → Stp H P T H' P' T' → Frm f H P T → (∀ a, P a → T a = 0) → R ps i H' P' f
  nil : ∀ {i : Nat} {H : Hp} {P : Addr → Prop} {f : FP}, R [] i H P f → J.stop i H
  go : ∀ {d : D} {l : Lv} {ps : List (D × Lv)} {i : Nat} {H : Hp} {P : Addr → Prop} {f : FP}, R ((d, l) :: ps) i H P f → J.go i H
  cons : ∀ {d : D} {l : Lv} {ps : List (D × Lv)} {i : Nat} {H H' : Hp} {P : Addr → Prop} {f T : FP} {x : V}, R ((d, l) :: ps) i H P f → Frm f H P T → (∀ a, P a → T a = 0) → J.yld i H x H' →
    ∃ f1 f2, (∀ a, f1 a + f2 a ≤ f a) ∧ RepD H' P d l x f1 ∧ R ps (i + 1) H' P f2 ∧ New H H'
/-- items with their levels -/
def RepP (H : Hp) (P : Addr → Prop) : List (D × Lv) → List V → FP → Prop
  | [], xs, f => xs = [] ∧ f = fz
  | (d, l) :: ds, xs, f => ∃ v r f1 f2, xs = v :: r ∧ RepD H P d l v f1 ∧ RepP H P ds r f2 ∧ f = fa f1 f2
section
variable {H H' : Hp} {P P' : Addr → Prop} {K : PySem.W.Frag}
theorem RepP.car : ∀ {ps : List (D × Lv)} {xs : List V} {f : FP}, Car H H' P P' f → RepP H P ps xs f → RepP H' P' ps xs f
  | [], _, _, _, h => h
  | (d, l) :: ps, _, _, c, h => by
    obtain ⟨v, r, f1, f2, e, h1, h2, e2⟩ := h
    subst e2
    exact ⟨v, r, f1, f2, e, h1.car (c.mono fun a => by simp), RepP.car (c.mono fun a => by simp) h2, rfl⟩
theorem RepP.len : ∀ {ps : List (D × Lv)} {xs : List V} {f : FP}, RepP H P ps xs f → xs.length = ps.length
  | [], _, _, h => by rw [h.1]; rfl
  | (d, l) :: ps, _, _, h => by
    obtain ⟨v, r, f1, f2, e, h1, h2, e2⟩ := h
    rw [e, List.length_cons, List.length_cons, RepP.len h2]
theorem RepL.pairs : ∀ {ds : List D} {k : Lv} {xs : List V} {f : FP}, RepL H P ds k xs f → RepP H P (ds.map fun d => (d, k)) xs f
  | [], _, _, _, h => h
  | d :: ds, k, _, _, h => by
    obtain ⟨v, r, f1, f2, e, h1, h2, e2⟩ := h
    exact ⟨v, r, f1, f2, e, h1, RepL.pairs h2, e2⟩
theorem RepP.app : ∀ {ps qs : List (D × Lv)} {xs ys : List V} {f g : FP}, RepP H P ps xs f → RepP H P qs ys g → RepP H P (ps ++ qs) (xs ++ ys) (fa f g)
  | [], qs, xs, ys, f, g, h, h' => by
    obtain ⟨rfl, rfl⟩ := h
    rw [fz_a]; exact h'
  | (d, l) :: ps, qs, xs, ys, f, g, h, h' => by
    obtain ⟨x, r, f1, f2, e, h1, h2, e2⟩ := h
    subst e e2
    exact ⟨x, r ++ ys, f1, fa f2 g, rfl, h1, RepP.app h2 h', fa_assoc _ _ _⟩
theorem RepP.rev : ∀ {ps : List (D × Lv)} {xs : List V} {f : FP}, RepP H P ps xs f → RepP H P ps.reverse xs.reverse f
  | [], _, _, h => by obtain ⟨rfl, rfl⟩ := h; exact ⟨rfl, rfl⟩
  | (d, l) :: ps, _, _, h => by
    obtain ⟨v, r, f1, f2, e, h1, h2, e2⟩ := h
    subst e e2
    rw [List.reverse_cons, List.reverse_cons, fa_comm]
    exact (RepP.rev h2).app ⟨v, [], f1, fz, rfl, h1, ⟨rfl, rfl⟩, (fa_z _).symm⟩
theorem drop_cons {α : Type} {xs : List α} {i : Nat} {v : α} {r : List α} (h : xs.drop i = v :: r) : xs[i]? = some v ∧ xs.drop (i + 1) = r := by
  constructor
  · have := congrArg (fun l => l[0]?) h
    simpa [List.getElem?_drop] using this
  · rw [← List.drop_drop, h]; rfl
/-- the list stands at a -/
def LsAt (H : Hp) (P : Addr → Prop) (a : Addr) (xs : List V) (f g : FP) : Prop := (P a ∧ Rd H a (.lst xs) ∧ f = g) ∨ (H a = some (.lst xs) ∧ f = fa (fo a) g)
theorem LsAt.rd {a : Addr} {xs : List V} {f g : FP} (h : LsAt H P a xs f g) : Rd H a (.lst xs) := by
  rcases h with ⟨_, h, _⟩ | ⟨h, _⟩
  · exact h
  · exact .inl h
theorem LsAt.le {a : Addr} {xs : List V} {f g : FP} (h : LsAt H P a xs f g) : ∀ b, g b ≤ f b := fun b => by
  rcases h with ⟨_, _, h⟩ | ⟨_, h⟩
  · rw [h]; exact Nat.le_refl _
  · rw [h]; simp
theorem LsAt.car {a : Addr} {xs : List V} {f g T T' : FP} (h : LsAt H P a xs f g) (st : Stp H P T H' P' T') (fr : Frm f H P T) (hp : ∀ a, P a → T a = 0) : LsAt H' P' a xs f g := by
  rcases h with ⟨z, h, e⟩ | ⟨h, e⟩
  · exact .inl ⟨st.oldP a z, rd_car (fun o q => st.keep a o q (hp a z)) h, e⟩
  · subst e
    exact .inr ⟨st.keep a _ h (fr a (by simp [fo_same])).2.1, rfl⟩
theorem LsAt.less {a : Addr} {xs : List V} {f g g' : FP} (h : LsAt H P a xs f g) (hg : ∀ b, g' b ≤ g b) : ∃ f', LsAt H P a xs f' g' ∧ ∀ b, f' b + g b = f b + g' b := by
  rcases h with ⟨z, h, e⟩ | ⟨h, e⟩
  · subst e
    exact ⟨g', .inl ⟨z, h, rfl⟩, fun b => by omega⟩
  · subst e
    exact ⟨fa (fo a) g', .inr ⟨h, rfl⟩, fun b => by simp; omega⟩
/-- a list walked -/
def RLst (a : Addr) : List (D × Lv) → Nat → Hp → (Addr → Prop) → FP → Prop := fun ps i H P f => ∃ xs g, LsAt H P a xs f g ∧ RepP H P ps (xs.drop i) g
theorem wk_lst (a : Addr) : Wk (Itl K a) (RLst a) where
  car := fun {ps i H H' P P' f T T'} ⟨xs, g, h1, h2⟩ st fr hp => ⟨xs, g, h1.car st fr hp, h2.car (st.car (fr.mono h1.le) hp)⟩
  nil := fun {i H P f} ⟨xs, g, h1, h2⟩ => ⟨xs, .inl h1.rd, by have := h2.len; rw [List.length_drop] at this; simp at this; omega⟩
  go := fun {d l ps i H P f} ⟨xs, g, h1, h2⟩ => by
    obtain ⟨v, r, f1, f2, e, _⟩ := h2
    exact ⟨xs, v, .inl h1.rd, (drop_cons e).1⟩
  cons := fun {d l ps i H H' P f T x} ⟨xs, g, h1, h2⟩ fr hp hy => by
    obtain ⟨v, r, f1, f2, e, h3, h4, e2⟩ := h2
    obtain ⟨rfl, hy⟩ := hy
    have hx := hy xs (.inl h1.rd)
    obtain ⟨e3, e4⟩ := drop_cons e
    rw [e3] at hx
    cases hx
    subst e2
    obtain ⟨f', h5, h6⟩ := h1.less (g' := f2) fun b => by simp
    exact ⟨f1, f', fun b => by have := h6 b; simp at this; omega, h3, ⟨xs, f2, h5, by rw [e4]; exact h4⟩, .inl rfl⟩
/-- a list walked from its end -/
def RRev (a : Addr) (n : Nat) : List (D × Lv) → Nat → Hp → (Addr → Prop) → FP → Prop := fun ps i H P f => ∃ xs g, LsAt H P a xs f g ∧ xs.length = n ∧ RepP H P ps (xs.reverse.drop i) g
theorem rev_get {α : Type} {xs : List α} {i : Nat} {v : α} (h : xs.reverse[i]? = some v) : xs[xs.length - 1 - i]? = some v ∧ i < xs.length := by
  have hi : i < xs.length := by simpa using (List.getElem?_eq_some_iff.mp h).1
  rw [List.getElem?_reverse hi] at h
  exact ⟨h, hi⟩
theorem wk_rev (a : Addr) (n : Nat) : Wk (Itv K a n) (RRev a n) where
  car := fun {ps i H H' P P' f T T'} ⟨xs, g, h1, hn, h2⟩ st fr hp => ⟨xs, g, h1.car st fr hp, hn, h2.car (st.car (fr.mono h1.le) hp)⟩
  nil := fun {i H P f} ⟨xs, g, h1, hn, h2⟩ => by
    have := h2.len; rw [List.length_drop, List.length_reverse] at this; simp at this
    show n ≤ i
    omega
  go := fun {d l ps i H P f} ⟨xs, g, h1, hn, h2⟩ => by
    obtain ⟨v, r, f1, f2, e, _⟩ := h2
    obtain ⟨e3, e4⟩ := rev_get (drop_cons e).1
    subst hn
    exact ⟨e4, xs, v, .inl h1.rd, e3⟩
  cons := fun {d l ps i H H' P f T x} ⟨xs, g, h1, hn, h2⟩ fr hp hy => by
    obtain ⟨v, r, f1, f2, e, h3, h4, e2⟩ := h2
    obtain ⟨rfl, hy⟩ := hy
    have hx := hy xs (.inl h1.rd)
    obtain ⟨e3, e4⟩ := drop_cons e
    obtain ⟨e5, e6⟩ := rev_get e3
    subst hn
    rw [e5] at hx
    cases hx
    subst e2
    obtain ⟨f', h5, h6⟩ := h1.less (g' := f2) fun b => by simp
    exact ⟨f1, f', fun b => by have := h6 b; simp at this; omega, h3, ⟨xs, f2, h5, rfl, by rw [e4]; exact h4⟩, .inl rfl⟩
/-- a tuple walked -/
def RTup (a : Addr) : List (D × Lv) → Nat → Hp → (Addr → Prop) → FP → Prop := fun ps i H P f => ∃ xs, Rd H a (.tup xs) ∧ RepP H P ps (xs.drop i) f
theorem wk_tup (a : Addr) : Wk (Itt K a) (RTup a) where
  car := fun {ps i H H' P P' f T T'} ⟨xs, h1, h2⟩ st fr hp => ⟨xs, st.tups a xs h1, h2.car (st.car fr hp)⟩
  nil := fun {i H P f} ⟨xs, h1, h2⟩ => ⟨xs, .inl h1, by have := h2.len; rw [List.length_drop] at this; simp at this; omega⟩
  go := fun {d l ps i H P f} ⟨xs, h1, h2⟩ => by
    obtain ⟨v, r, f1, f2, e, _⟩ := h2
    exact ⟨xs, v, .inl h1, (drop_cons e).1⟩
  cons := fun {d l ps i H H' P f T x} ⟨xs, h1, h2⟩ fr hp hy => by
    obtain ⟨v, r, f1, f2, e, h3, h4, e2⟩ := h2
    obtain ⟨rfl, hy⟩ := hy
    have hx := hy xs (.inl h1)
    obtain ⟨e3, e4⟩ := drop_cons e
    rw [e3] at hx
    cases hx
    subst e2
    exact ⟨f1, f2, fun b => by simp, h3, ⟨xs, h1, by rw [e4]; exact h4⟩, .inl rfl⟩
/-- a tuple walked from its end -/
def RRevT (a : Addr) (n : Nat) : List (D × Lv) → Nat → Hp → (Addr → Prop) → FP → Prop := fun ps i H P f => ∃ xs, Rd H a (.tup xs) ∧ xs.length = n ∧ RepP H P ps (xs.reverse.drop i) f
theorem wk_revT (a : Addr) (n : Nat) : Wk (RT.ItvT K a n) (RRevT a n) where
  car := fun {ps i H H' P P' f T T'} ⟨xs, h1, hn, h2⟩ st fr hp => ⟨xs, st.tups a xs h1, hn, h2.car (st.car fr hp)⟩
  nil := fun {i H P f} ⟨xs, h1, hn, h2⟩ => by
    have := h2.len; rw [List.length_drop, List.length_reverse] at this; simp at this
    show n ≤ i
    omega
  go := fun {d l ps i H P f} ⟨xs, h1, hn, h2⟩ => by
    obtain ⟨v, r, f1, f2, e, _⟩ := h2
    obtain ⟨e3, e4⟩ := rev_get (drop_cons e).1
    subst hn
    exact ⟨e4, xs, v, .inl h1, e3⟩
  cons := fun {d l ps i H H' P f T x} ⟨xs, h1, hn, h2⟩ fr hp hy => by
    obtain ⟨v, r, f1, f2, e, h3, h4, e2⟩ := h2
    obtain ⟨rfl, hy⟩ := hy
    have hx := hy xs (.inl h1)
    obtain ⟨e3, e4⟩ := drop_cons e
    obtain ⟨e5, e6⟩ := rev_get e3
    subst hn
    rw [e5] at hx
    cases hx
    subst e2
    exact ⟨f1, f2, fun b => by simp, h3, ⟨xs, h1, rfl, by rw [e4]; exact h4⟩, .inl rfl⟩
/-- values that are no part of the heap -/
def RVal (all : List D) : List (D × Lv) → Nat → Hp → (Addr → Prop) → FP → Prop := fun ps i _ _ f => ps = (all.drop i).map (fun d => (d, Lv.full)) ∧ f = fz
theorem rangeI_get {lo c : Int} {n i : Nat} {k : Int} (h : (rangeI lo n c)[i]? = some k) : k = lo + (i : Nat) * c := by
  unfold rangeI at h
  rw [List.getElem?_map] at h
  obtain ⟨j, e7, e8⟩ := Option.map_eq_some_iff.mp h
  obtain ⟨hi, e⟩ := List.getElem?_eq_some_iff.mp e7
  rw [List.getElem_range] at e
  subst e
  exact e8.symm
theorem wk_rngC (lo c : Int) (n : Nat) : Wk (Itc lo c n) (RVal ((rangeI lo n c).map .int)) where
  car := fun h _ _ _ => h
  nil := fun {i H P f} h => by
    have : (((rangeI lo n c).map D.int).drop i).length = 0 := by
      have := congrArg List.length h.1
      rw [List.length_map] at this
      exact this.symm
    rw [List.length_drop, List.length_map, rangeI_len] at this
    show n ≤ i
    omega
  go := fun {d l ps i H P f} h => by
    have : 0 < (((rangeI lo n c).map D.int).drop i).length := by
      have := congrArg List.length h.1
      rw [List.length_map, List.length_cons] at this
      omega
    rw [List.length_drop, List.length_map, rangeI_len] at this
    show i < n
    omega
  cons := fun {d l ps i H H' P f T x} h fr hp hy => by
    obtain ⟨rfl, rfl⟩ := hy
    obtain ⟨h1, h2⟩ := h
    cases q : ((rangeI lo n c).map D.int).drop i with
    | nil => rw [q] at h1; cases h1
    | cons z r =>
      rw [q] at h1
      injection h1 with h3 h4
      injection h3 with h5 h6
      obtain ⟨e3, e4⟩ := drop_cons q
      have hz : z = .int (lo + (i : Nat) * c) := by
        rw [List.getElem?_map] at e3
        obtain ⟨k, e5, e6⟩ := Option.map_eq_some_iff.mp e3
        rw [← e6, rangeI_get e5]
      subst h5 h6
      refine ⟨fz, fz, fun b => by simp, by rw [hz]; exact ⟨rfl, rfl⟩, ⟨by rw [e4]; exact h4, rfl⟩, .inl rfl⟩
theorem wk_rng (lo : Int) (n : Nat) : Wk (Itr lo n) (RVal ((rangeI lo n 1).map .int)) where
  car := fun h _ _ _ => h
  nil := fun {i H P f} h => (wk_rngC lo 1 n).nil (H := H) (P := P) h
  go := fun {d l ps i H P f} h => (wk_rngC lo 1 n).go (H := H) (P := P) h
  cons := fun {d l ps i H H' P f T x} h fr hp hy => (wk_rngC lo 1 n).cons h fr hp (by
    obtain ⟨rfl, rfl⟩ := hy
    exact ⟨rfl, by rw [Int.mul_one]⟩)
/-- a text walked -/
theorem wk_str (s : Str) : Wk (L2.Its s) (RVal (s.cps.toList.map fun c => .str ⟨#[c]⟩)) where
  car := fun h _ _ _ => h
  nil := fun {i H P f} h => by
    have : ((s.cps.toList.map fun c => D.str ⟨#[c]⟩).drop i).length = 0 := by
      have := congrArg List.length h.1
      rw [List.length_map] at this
      exact this.symm
    rw [List.length_drop, List.length_map, Array.length_toList] at this
    show s.cps.size ≤ i
    omega
  go := fun {d l ps i H P f} h => by
    have : 0 < ((s.cps.toList.map fun c => D.str ⟨#[c]⟩).drop i).length := by
      have := congrArg List.length h.1
      rw [List.length_map, List.length_cons] at this
      omega
    rw [List.length_drop, List.length_map, Array.length_toList] at this
    show i < s.cps.size
    omega
  cons := fun {d l ps i H H' P f T x} h fr hp hy => by
    obtain ⟨rfl, c, hc, rfl⟩ := hy
    obtain ⟨h1, h2⟩ := h
    cases q : (s.cps.toList.map fun c => D.str ⟨#[c]⟩).drop i with
    | nil => rw [q] at h1; cases h1
    | cons z r =>
      rw [q] at h1
      injection h1 with h3 h4
      injection h3 with h5 h6
      obtain ⟨e3, e4⟩ := drop_cons q
      have hz : z = .str ⟨#[c]⟩ := by
        rw [List.getElem?_map, Array.getElem?_toList, hc] at e3
        exact (Option.some.inj e3).symm
      subst h5 h6
      refine ⟨fz, fz, fun b => by simp, by rw [hz]; exact ⟨rfl, rfl⟩, ⟨by rw [e4]; exact h4, rfl⟩, .inl rfl⟩
end
end VI
namespace VI
open PySem PySem.Spec PyProof.Rows L2
section
variable {K : PySem.W.Frag}
/-! ### enumerate -/
def REnu (B : List (D × Lv) → Nat → Hp → (Addr → Prop) → FP → Prop) : List (D × Lv) → Nat → Hp → (Addr → Prop) → FP → Prop := fun ps i H P f => ∃ qs, ps = enumP i qs ∧ (∀ p ∈ qs, p.2 ≠ Lv.top) ∧ B qs i H P f
theorem pred_self {l : Lv} (h : l ≠ .top) : l.pred = l := by cases l <;> first | rfl | exact absurd rfl h
theorem wk_enum {J J' : L2.It} {B : List (D × Lv) → Nat → Hp → (Addr → Prop) → FP → Prop} (w : Wk J B) (hs : ∀ i H, J.stop i H → J'.stop i H) (hg : ∀ i H, J.go i H → J'.go i H)
    (hy : ∀ i H v H', J'.yld i H v H' → ∃ T x, v = .ref T ∧ H T = none ∧ H' = upd H T (.tup [.int (i : Nat), x]) ∧ J.yld i H x H) : Wk J' (REnu B) where
  car := fun ⟨qs, h1, h2, h3⟩ st fr hp => ⟨qs, h1, h2, w.car h3 st fr hp⟩
  nil := fun {i H P f} ⟨qs, h1, h2, h3⟩ => by
    cases qs with
    | nil => exact hs _ _ (w.nil h3)
    | cons p r => obtain ⟨d, l⟩ := p; cases h1
  go := fun {d l ps i H P f} ⟨qs, h1, h2, h3⟩ => by
    cases qs with
    | nil => cases h1
    | cons p r => obtain ⟨d', l'⟩ := p; exact hg _ _ (w.go h3)
  cons := fun {d l ps i H H' P f T x} ⟨qs, h1, h2, h3⟩ fr hp y => by
    cases qs with
    | nil => cases h1
    | cons p r =>
      obtain ⟨d', l'⟩ := p
      injection h1 with h4 h5
      injection h4 with h6 h7
      subst h6 h7 h5
      obtain ⟨p, z, rfl, hn, rfl, y'⟩ := hy _ _ _ _ y
      obtain ⟨f1, f2, e1, e2, e3, _⟩ := w.cons h3 fr hp y'
      refine ⟨f1, f2, e1, ?_, ⟨r, rfl, fun q hq => h2 q (List.mem_cons_of_mem _ hq), w.car e3 (Stp.new _ hn T) (fr.mono fun a => by have := e1 a; omega) hp⟩, .inr ⟨p, _, hn, rfl⟩⟩
      have hl := pred_self (h2 _ List.mem_cons_self)
      have e4 := e2.car (car_new (P := P) (.tup [.int (i : Nat), z]) hn f1)
      refine ⟨p, [.int (i : Nat), z], rfl, .inl upd_same, .int (i : Nat), [z], fz, f1, rfl, ⟨rfl, rfl⟩, ?_, (fz_a _).symm⟩
      have hl' : l.pred = l := hl
      rw [hl']
      exact RepL.one e4
/-! ### zip -/
def RZip (B1 B2 : List (D × Lv) → Nat → Hp → (Addr → Prop) → FP → Prop) (k : Lv) : List (D × Lv) → Nat → Hp → (Addr → Prop) → FP → Prop := fun ps i H P f =>
  ∃ ds es f1 f2, ps = (zipD ds es).map (fun d => (d, k)) ∧ B1 (ds.map fun d => (d, k)) i H P f1 ∧ B2 (es.map fun d => (d, k)) i H P f2 ∧ f = fa f1 f2
theorem wk_zip {J1 J2 J' : L2.It} {B1 B2 : List (D × Lv) → Nat → Hp → (Addr → Prop) → FP → Prop} {k : Lv} (hk : k ≠ .top) (w1 : Wk J1 B1) (w2 : Wk J2 B2) (hs : ∀ i H, (J1.stop i H ∧ (J2.stop i H ∨ J2.go i H)) ∨ (J1.go i H ∧ J2.stop i H) → J'.stop i H) (hg : ∀ i H, J1.go i H → J2.go i H → J'.go i H)
    (hy : ∀ i H v H', J'.yld i H v H' → ∃ T x y, v = .ref T ∧ H T = none ∧ H' = upd H T (.tup [x, y]) ∧ J1.yld i H x H ∧ J2.yld i H y H) : Wk J' (RZip B1 B2 k) where
  car := fun ⟨ds, es, f1, f2, h1, h2, h3, h4⟩ st fr hp => by
    subst h4
    exact ⟨ds, es, f1, f2, h1, w1.car h2 st (fr.mono fun a => by simp) hp, w2.car h3 st (fr.mono fun a => by simp) hp, rfl⟩
  nil := fun {i H P f} ⟨ds, es, f1, f2, h1, h2, h3, h4⟩ => by
    cases ds with
    | nil =>
      cases es with
      | nil => exact hs _ _ (.inl ⟨w1.nil h2, .inl (w2.nil h3)⟩)
      | cons y r => exact hs _ _ (.inl ⟨w1.nil h2, .inr (w2.go h3)⟩)
    | cons x r =>
      cases es with
      | nil => exact hs _ _ (.inr ⟨w1.go h2, w2.nil h3⟩)
      | cons y r => cases h1
  go := fun {d l ps i H P f} ⟨ds, es, f1, f2, h1, h2, h3, h4⟩ => by
    cases ds with
    | nil => cases h1
    | cons x r =>
      cases es with
      | nil => cases h1
      | cons y r => exact hg _ _ (w1.go h2) (w2.go h3)
  cons := fun {d l ps i H H' P f T x} ⟨ds, es, f1, f2, h1, h2, h3, h4⟩ fr hp y => by
    subst h4
    cases ds with
    | nil => cases h1
    | cons a r =>
      cases es with
      | nil => cases h1
      | cons b r' =>
        injection h1 with h5 h6
        injection h5 with h7 h8
        subst h7 h8 h6
        obtain ⟨p, z, u, rfl, hn, rfl, y1, y2⟩ := hy _ _ _ _ y
        obtain ⟨g1, g2, e1, e2, e3, _⟩ := w1.cons h2 (fr.mono fun a => by simp) hp y1
        obtain ⟨k1, k2, e4, e5, e6, _⟩ := w2.cons h3 (fr.mono fun a => by simp) hp y2
        have c1 := e2.car (car_new (P := P) (.tup [z, u]) hn g1)
        have c2 := e5.car (car_new (P := P) (.tup [z, u]) hn k1)
        refine ⟨fa g1 k1, fa g2 k2, fun c => by have := e1 c; have := e4 c; simp; omega, ?_, ⟨r, r', g2, k2, rfl, w1.car e3 (Stp.new _ hn T) (fr.mono fun c => by have := e1 c; simp; omega) hp, w2.car e6 (Stp.new _ hn T) (fr.mono fun c => by have := e4 c; simp; omega) hp, rfl⟩, .inr ⟨p, _, hn, rfl⟩⟩
        have hl : l.pred = l := pred_self hk
        refine ⟨p, [z, u], rfl, .inl upd_same, z, [u], g1, k1, rfl, by rw [hl]; exact c1, ?_, rfl⟩
        rw [hl]; exact RepL.one c2
theorem wk_enumL (a : Addr) : Wk (Ite K a) (REnu (RLst a)) :=
  wk_enum (wk_lst (K := K) a) (fun i H h => h) (fun i H h => h) fun i H v H' ⟨T, x, h1, h2, h3, h4⟩ => ⟨T, x, h1, h2, h3, rfl, h4⟩
theorem wk_zipL {k : Lv} (hk : k ≠ .top) (a b : Addr) : Wk (Itz K a b) (RZip (RLst a) (RLst b) k) :=
  wk_zip hk (wk_lst (K := K) a) (wk_lst (K := K) b) (fun i H h => by
    rcases h with ⟨⟨xs, h1, h2⟩, ⟨ys, h3, h4⟩ | ⟨ys, y, h3, h4⟩⟩ | ⟨⟨xs, x, h1, h2⟩, ⟨ys, h3, h4⟩⟩
    · exact ⟨xs, ys, h1, h3, .inl h2⟩
    · exact ⟨xs, ys, h1, h3, .inl h2⟩
    · exact ⟨xs, ys, h1, h3, .inr h4⟩) (fun i H ⟨xs, x, h1, h2⟩ ⟨ys, y, h3, h4⟩ => ⟨xs, ys, x, y, h1, h3, h2, h4⟩)
    fun i H v H' ⟨T, x, y, h1, h2, h3, h4, h5⟩ => ⟨T, x, y, h1, h2, h3, ⟨rfl, h4⟩, ⟨rfl, h5⟩⟩
theorem wk_zipT {k : Lv} (hk : k ≠ .top) (a b : Addr) : Wk (RZ.ItzT K a b) (RZip (RTup a) (RTup b) k) :=
  wk_zip hk (wk_tup (K := K) a) (wk_tup (K := K) b) (fun i H h => by
    rcases h with ⟨⟨xs, h1, h2⟩, ⟨ys, h3, h4⟩ | ⟨ys, y, h3, h4⟩⟩ | ⟨⟨xs, x, h1, h2⟩, ⟨ys, h3, h4⟩⟩
    · exact ⟨xs, ys, h1, h3, .inl h2⟩
    · exact ⟨xs, ys, h1, h3, .inl h2⟩
    · exact ⟨xs, ys, h1, h3, .inr h4⟩) (fun i H ⟨xs, x, h1, h2⟩ ⟨ys, y, h3, h4⟩ => ⟨xs, ys, x, y, h1, h3, h2, h4⟩)
    fun i H v H' ⟨T, x, y, h1, h2, h3, h4, h5⟩ => ⟨T, x, y, h1, h2, h3, ⟨rfl, h4⟩, ⟨rfl, h5⟩⟩
/-- enumerate of a tuple -/
def IteT (K : PySem.W.Frag) (a : Addr) : L2.It :=
  ⟨fun i H => ∃ (xs : List V) (x : V), SqT K H a xs ∧ xs[i]? = some x, fun i H v H' => ∃ T x, v = .ref T ∧ H T = none ∧ H' = upd H T (.tup [.int (i : Nat), x]) ∧ ∀ xs, SqT K H a xs → xs[i]? = some x, fun i H => ∃ xs : List V, SqT K H a xs ∧ xs.length ≤ i⟩
theorem wk_enumT (a : Addr) : Wk (IteT K a) (REnu (RTup a)) :=
  wk_enum (wk_tup (K := K) a) (fun i H h => h) (fun i H h => h) fun i H v H' ⟨T, x, h1, h2, h3, h4⟩ => ⟨T, x, h1, h2, h3, rfl, h4⟩
end
end VI
namespace PySem
open Sem (wp)
theorem vi_enumerate_newT (l : Addr) (items : Array Value) :
    Meets (Builtin.«enumerate.__new__» ⟨[.type "enumerate", .ref l], []⟩) (fun _ R s => s.heap.IsTuple l items ∧
      R (.ok (.ret (.ref (s.heap.push { cls := .type "tuple_iterator", data := .fields #[.ref l, .int 0 0] }).objs.size)))
        { s with heap := (s.heap.push { cls := .type "tuple_iterator", data := .fields #[.ref l, .int 0 0] }).push { cls := .type "enumerate", data := .fields #[.none, .bool false, .ref s.heap.objs.size, rawInt 0, .none, .none] } }) :=
  .of_wp fun prog w A R s h => by
    obtain ⟨hp, g, d, tk, os⟩ := s; obtain ⟨h1, h⟩ := h
    have hsub := sub_enumerate
    have q1 : ∀ {A' : Around} {E : Value → Shared → Prop} {Q : Value → Shared → Prop}, Q (.ref hp.objs.size) ⟨hp.push { cls := .type "tuple_iterator", data := .fields #[.ref l, .int 0 0] }, g, d, tk, os⟩ → wpAny (model prog w) A' (pyIter (.ref l)) Q E ⟨hp, g, d, tk, os⟩ :=
      fun q => wpAny_pyIter_tuple (s := ⟨hp, g, d, tk, os⟩) h1 q
    wp_walk using q1
    refine wpAny_stack_any fun st => wpAny_pure ?_
    split
    · rename_i c _ _ _ _ _
      cases (c == Value.type "enumerate")
      · wp_walk using q1
        exact ⟨_, rfl, h⟩
      · wp_walk using q1
        exact ⟨_, rfl, h⟩
    · wp_walk using q1
      exact ⟨_, rfl, h⟩
end PySem
namespace PySem
section
variable {prog : Program} {w : World} {A : Around} {E : Value → Shared → Prop} {s : Shared}
theorem vi_call_enumT {l : Addr} {items : Array Value} {Q : Value → Shared → Prop} (hL : s.heap.IsTuple l items)
    (h : ∀ h', IsEnum h' (s.heap.objs.size + 1) s.heap.objs.size 0 .none → h'.IsTupleIter s.heap.objs.size l 0 → h'.objs.size = s.heap.objs.size + 2 →
      (∀ b o, s.heap.get? b = some o → h'.get? b = some o) → Q (.ref (s.heap.objs.size + 1)) { s with heap := h' }) :
    wpAny (model prog w) A (call (.type "enumerate") [.ref l]) Q E s := by
  refine callType_new F.called_enumerate (by decide) (F.typeCall_enumerate_1 _) (F.newCall_enumerate_1 _) (fun obj => F.args_object_init_2 obj _) F.entry_enumerate_new
    (vi_enumerate_newT l items) ⟨hL, ?_⟩
  have hz : (s.heap.push { cls := .type "tuple_iterator", data := .fields #[.ref l, .int 0 0] }).objs.size = s.heap.objs.size + 1 := Heap.size_push ..
  show _ ∧ _
  rw [hz]
  have he : IsEnum ((s.heap.push { cls := .type "tuple_iterator", data := .fields #[.ref l, .int 0 0] }).push
      { cls := .type "enumerate", data := .fields #[.none, .bool false, .ref s.heap.objs.size, rawInt 0, .none, .none] }) (s.heap.objs.size + 1) s.heap.objs.size 0 .none := by
    have := Heap.get?_push_size (s.heap.push { cls := .type "tuple_iterator", data := .fields #[.ref l, .int 0 0] })
      (o := { cls := .type "enumerate", data := .fields #[.none, .bool false, .ref s.heap.objs.size, rawInt 0, .none, .none] }) rfl
    rw [hz] at this; exact this
  refine ⟨⟨_, he, rfl⟩, h _ he ⟨_, Heap.get?_push_of_some _ (Heap.get?_push_size _ rfl), rfl, rfl⟩ (by rw [Heap.size_push, hz]) fun b o x => Heap.get?_push_of_some _ (Heap.get?_push_of_some _ x)⟩
end
end PySem
namespace VI
open PySem PySem.Spec PyProof.Rows L2
theorem turn_enumT {P : Program} {w : World} {K : PySem.W.Frag} {elts : List Expr} {kk : Nat} {tpos : Pos} (a e it : Addr) :
    Turn P w K (.Tuple elts kk tpos) (IteT K a) [e, it] e (fun i h => (∃ old, IsEnum h e it ((i : Nat) : Int) old) ∧ h.IsTupleIter it a i ∧ e ≠ it) where
  mem := by simp
  obj := fun i h st b hb => by
    obtain ⟨⟨old, he⟩, ⟨o, ho, hc, hd⟩, _⟩ := st
    have e' : b = e ∨ b = it := by simpa using hb
    rcases e' with z | z
    · rw [z]; exact ⟨_, he, fun v q => nomatch q⟩
    · rw [z]; exact ⟨o, ho, fun v q => by rw [hd] at q; cases q⟩
  keep := fun i h h' st k => let ⟨⟨old, he⟩, hi, hne⟩ := st; ⟨⟨old, k e (by simp) _ he⟩, hi.at fun o q => k it (by simp) o q, hne⟩
  item := by
    intro X hP hw hK hc i pins s σ H E I hf st hg
    subst hP hw hK
    obtain ⟨⟨old, he⟩, hit, hne⟩ := st
    obtain ⟨xs, x, hq, hx⟩ := hg
    obtain ⟨its, rv, p, hz⟩ := I.tuple hq
    obtain ⟨u, hu, ru⟩ := rv.get hx
    have pt : s.heap.IsTuple a its.toArray := p
    have hel : e < s.heap.objs.size := Heap.lt_size he
    have hil : it < s.heap.objs.size := by obtain ⟨_, q, _⟩ := hit; exact Heap.lt_size q
    have hai : a ≠ it := fun q => by
      subst q
      obtain ⟨o1, z1, z2, _⟩ := hit
      obtain ⟨o2, y1, y2, _⟩ := pt
      rw [z1] at y1; cases y1; rw [z2] at y2; injection y2 with y2; exact absurd y2 (by decide)
    have hae : e ∉ [it, a] := fun q => by
      have e' : e = it ∨ e = a := by simpa using q
      rcases e' with z | z
      · exact hne z
      · subst z
        obtain ⟨o2, y1, y2, _⟩ := pt
        rw [he] at y1; cases y1; injection y2 with y2; exact absurd y2 (by decide)
    have hlt : i < its.toArray.size := by
      have := (List.getElem?_eq_some_iff.mp hu).1
      simpa using this
    refine wpAny_pyNext_enum_itemD (Draws.tuple (prog := X.prog) (w := X.w) (A := X.A.in1) (I.ok.hd hc) it a hai its.toArray) he ⟨hit, pt⟩ hlt hne hae fun x' h' tk hx' ho hit' hT hsz hk => ?_
    have ex : x' = u := by
      have : its.toArray[i]? = some u := by simpa using hu
      rw [this] at hx'
      exact (Option.some.inj hx').symm
    subst ex
    refine ⟨_, rfl, wpAny_letOwnedTupleGo_enum (s := { s with heap := h', toks := tk + 1 }) ho fun h'' he' sb => ?_⟩
    have hT2 : h''.get? s.heap.objs.size = some { cls := .type "tuple", data := .seq #[.int i tk, x'] } := (sb.2 _ (Nat.ne_of_gt hel)).trans hT
    have new : ObjOk X.prog X.w (upd H s.heap.objs.size (.tup [.int (i : Nat), x])) h'' s.heap.objs.size (.tup [.int (i : Nat), x]) :=
      ⟨by show 2 ≤ sizeLine; decide, [.int i tk, x'], .cons ⟨_, rfl⟩ (.cons ru .nil), ⟨_, hT2, rfl, _, rfl⟩⟩
    have I1 : Inv X pins σ (upd H s.heap.objs.size (.tup [.int (i : Nat), x])) { s with heap := h'', toks := tk + 1 } :=
      I.turnedNew (ch := [e, it]) (fun b ob hb q => (sb.2 b (fun z => hb (by simp [z]))).trans (hk b ob (fun z => hb (by simp [z])) (fun z => hb (by simp [z])) q)) hf (Nat.le_refl _) new
    refine ⟨.ref s.heap.objs.size, _, I1, rfl, ⟨_, x, rfl, I.hok.fresh (Nat.le_refl _), rfl, fun ys hy => by rw [I.tuple_inj hy hq]; exact hx⟩, ⟨⟨x', ?_⟩, hit'.1.at fun o q => (sb.2 it (Ne.symm hne)).trans q, hne⟩, fun b hb => ?_⟩
    · have e1 : ((i + 1 : Nat) : Int) = (i : Int) + 1 := by omega
      rw [e1]; exact he'
    · have hb' : b < s.heap.objs.size := by
        have e' : b = e ∨ b = it := by simpa using hb
        rcases e' with z | z
        · rw [z]; exact hel
        · rw [z]; exact hil
      rw [upd_ne (Nat.ne_of_lt hb')]
      exact (hf b hb).1
  done := by
    intro X hP hw hK hc i pins s σ H E I hf st hg
    subst hP hw hK
    obtain ⟨⟨old, he⟩, hit, hne⟩ := st
    obtain ⟨xs, hq, hx⟩ := hg
    obtain ⟨its, rv, p, hz⟩ := I.tuple hq
    obtain ⟨f0, f1, f2, f3, f4, f5⟩ := hf it (by simp)
    have pt : s.heap.IsTuple a its.toArray := p
    have hai : a ≠ it := fun q => by
      subst q
      obtain ⟨o1, z1, z2, _⟩ := hit
      obtain ⟨o2, y1, y2, _⟩ := pt
      rw [z1] at y1; cases y1; rw [z2] at y2; injection y2 with y2; exact absurd y2 (by decide)
    have hl := rv.length
    have hTy : s.TypeIs (.ref e) "enumerate" := ⟨_, he, rfl⟩
    unfold pyNext
    refine wpAny_bind (wpAny_attempt (wpAny_callSpecial?_slot (name := Str.ofString "__next__") hTy F.slot_enumerate_next
      (wpAny_call_entry F.slot_enumerate_next hTy F.entry_enumerate_next ?_ (F.args_enumerate_next_1 _))))
    show wpAny _ _ (field (.ref e) 2 >>= _) _ _ _
    refine wpAny_bind (wpAny_field he rfl (x := .ref it) rfl ?_)
    refine wpAny_bind (wpAny_nextOf_tuple_end (I.ok.hd hc) hit pt (by simp; omega) fun h' x hx' he' => ?_)
    obtain ⟨o, ho, hcl⟩ := he'
    refine wpAny_bind (wpAny_isInstance (T := "StopIteration") (b := true) ⟨o, ho, hcl⟩ isSubtype_stop ?_)
    exact wpAny_pure ⟨rfl, I.turned (t' := s.toks) (fun b o hb q => hx' b o hb q) f0 f1 f3 f4 f5⟩
  self := fun A i s Q E st h => let ⟨⟨_, he⟩, _⟩ := st; wpAny_pyIter_enum he h
/-- enumerate of a list or a tuple -/
def iEnumA (K : PySem.W.Frag) (te : TE) : TI := fun σ H R => te σ H fun v H1 => ∃ a xs, v = .ref a ∧ ((SqL K H1 a xs ∧ R (Ite K a) H1) ∨ (SqT K H1 a xs ∧ R (IteT K a) H1))
theorem pi_enumA {X : Cx} {e : Expr} {te : TE} {p pos tpos : Pos} {elts : List Expr} {kk : Nat} (hg : Gl X "enumerate") (hm : X.mg "enumerate" = none) (he : PE X e te) (hs : starEach [e] X.env = (false, eval e X.env) :: starEach [] X.env) :
    PI X (.Tuple elts kk tpos) (.Call (.Name "enumerate" p) [e] [] pos) (iEnumA X.K te) := by
  refine ⟨fun pins s σ H R I h => ?_⟩
  refine Call_ (ld_blt I hg hm boot_enumerate (PyProof.Rows.callWith_type1 (args_cons (thn (he.run pins s σ H _ I h) fun u s1 ⟨v, H1, I1, r1, q1⟩ => args_nil ?_) hs) hs rfl))
  obtain ⟨a, xs, ex, q⟩ := q1
  subst ex
  cases r1
  rcases q with ⟨hq, q⟩ | ⟨hq, q⟩
  · obtain ⟨its, rv, p', hz⟩ := I1.list hq
    refine call_enumerate_list p'.isList fun h' he hit hsz hk => wpAny_pyIter_enum he ?_
    have I2 : Inv X pins σ H1 { s1 with heap := h' } := I1.kept (t' := s1.toks) hk
    refine ⟨s1.heap.objs.size + 1, [s1.heap.objs.size + 1, s1.heap.objs.size], _, _, H1, rfl, I2, turn_enum a (s1.heap.objs.size + 1) s1.heap.objs.size, ⟨⟨.none, he⟩, hit, Nat.succ_ne_self _⟩, fun b hb => ?_, q⟩
    have e' : b = s1.heap.objs.size + 1 ∨ b = s1.heap.objs.size := by simpa using hb
    have hle : s1.heap.objs.size ≤ b := by
      rcases e' with z | z
      · rw [z]; exact Nat.le_add_right _ _
      · rw [z]; exact Nat.le_refl _
    exact I1.fpOk hle (I1.hok.fresh hle)
  · obtain ⟨its, rv, p', hz⟩ := I1.tuple hq
    refine vi_call_enumT (show s1.heap.IsTuple a its.toArray from p') fun h' he hit hsz hk => wpAny_pyIter_enum he ?_
    have I2 : Inv X pins σ H1 { s1 with heap := h' } := I1.kept (t' := s1.toks) hk
    refine ⟨s1.heap.objs.size + 1, [s1.heap.objs.size + 1, s1.heap.objs.size], _, _, H1, rfl, I2, turn_enumT a (s1.heap.objs.size + 1) s1.heap.objs.size, ⟨⟨.none, he⟩, hit, Nat.succ_ne_self _⟩, fun b hb => ?_, q⟩
    have e' : b = s1.heap.objs.size + 1 ∨ b = s1.heap.objs.size := by simpa using hb
    have hle : s1.heap.objs.size ≤ b := by
      rcases e' with z | z
      · rw [z]; exact Nat.le_add_right _ _
      · rw [z]; exact Nat.le_refl _
    exact I1.fpOk hle (I1.hok.fresh hle)
/-- a value of any kind walked -/
def iAny (K : PySem.W.Frag) (te : TE) : TI := fun σ H R => te σ H fun v H1 => (∃ a xs, v = .ref a ∧ ((SqL K H1 a xs ∧ R (Itl K a) H1) ∨ (SqT K H1 a xs ∧ R (Itt K a) H1))) ∨ ∃ x, v = .str x ∧ R (L2.Its x) H1
theorem pi_any {X : Cx} {tg e : Expr} {te : TE} (he : PE X e te) : PI X tg e (iAny X.K te) := by
  refine ⟨fun pins s σ H R I h => ?_⟩
  refine thn (he.run pins s σ H _ I h) fun v s1 ⟨x, H1, I1, r1, q1⟩ => ?_
  rcases q1 with ⟨a, xs, ex, q⟩ | ⟨x, ex, q⟩
  · subst ex
    cases r1
    rcases q with ⟨hq, q⟩ | ⟨hq, q⟩
    · obtain ⟨its, rv, p, hz⟩ := I1.list hq
      refine wpAny_pyIter_list p.isList ?_
      refine ⟨s1.heap.objs.size, [s1.heap.objs.size], _, _, H1, rfl, I1.kept (t' := s1.toks) fun b o e => Heap.get?_push_of_some _ e, turn_list a _, ⟨_, Heap.get?_push_size _ rfl, rfl, rfl⟩, fun b hb => ?_, q⟩
      have e : b = s1.heap.objs.size := by simpa using hb
      subst e
      exact I1.fpOk (Nat.le_refl _) (I1.hok.fresh (Nat.le_refl _))
    · obtain ⟨its, rv, p, hz⟩ := I1.tuple hq
      refine wpAny_pyIter_tuple (show s1.heap.IsTuple a its.toArray from p) ?_
      refine ⟨s1.heap.objs.size, [s1.heap.objs.size], _, _, H1, rfl, I1.kept (t' := s1.toks) fun b o e => Heap.get?_push_of_some _ e, turn_tuple a _, ⟨_, Heap.get?_push_size _ rfl, rfl, rfl⟩, fun b hb => ?_, q⟩
      have e : b = s1.heap.objs.size := by simpa using hb
      subst e
      exact I1.fpOk (Nat.le_refl _) (I1.hok.fresh (Nat.le_refl _))
  · subst ex
    obtain ⟨t, rfl⟩ := r1
    cases ha : x.cps.all (· < 128)
    · exact wpAny_pyIter_wide ha (pi_one (tk := s1.toks) I1 _ (turn_str _ x t "str_iterator" (.inr rfl)) ⟨_, Heap.get?_push_size _ rfl, rfl, rfl⟩ q)
    · exact wpAny_pyIter_ascii ha (pi_one (tk := s1.toks) I1 _ (turn_str _ x t "str_ascii_iterator" (.inl rfl)) ⟨_, Heap.get?_push_size _ rfl, rfl, rfl⟩ q)
end VI
namespace VI
open PySem PySem.Spec PyProof.Rows L2
/-- what a hidden slot is again behind the loop -/
def Hid (σ : L2.St) (o : Option (Nat × Slot)) (B : List (D × Lv) → Nat → Hp → (Addr → Prop) → FP → Prop) : Prop := match o with
  | none => True
  | some (i, s) => ∃ v d l, σ[i]? = some (some v) ∧ s = .own d l ∧ ∀ ps j H P f, B ps j H P f → RepD H P d l v f
def PIv (W : WC) (σ : L2.St) (H : Hp) (P : Addr → Prop) (T : FP) (r : R (List (D × Lv) × Option (Nat × Slot))) (Q : L2.It → Hp → Prop) : Prop := match r with
  | .ok (ps, o) e1 => ∀ J B H1 P1 F1 f, Wk J B → B ps 0 H1 P1 f → Hid σ o B → St0 σ e1 H1 P1 F1 → Frm f H1 P1 (tot F1) → Stp H P T H1 P1 (fa (tot F1) f) → Q J H1
  | .exc c e1 => ∀ H' P' F', St0 σ e1 H' P' F' → Stp H P T H' P' (tot F') → W c σ H'
  | .stk => False
def iI (cs : CS) (W : WC) (m : It) : TI := fun σ H Q => ∃ e P F, St0 σ e H P F ∧ PIv W σ H P (tot F) (evalI cs m e) Q
structure SndI (X : Cx) (cs : CS) (W : WC) (m : It) (tg e : Expr) : Prop where
  pi : PI X tg e (iI cs W m)
  fo : ∀ x, foldedSetIterable e X.env x = pure x
theorem pi_imp {X : Cx} {tg e : Expr} {t t' : TI} (h : PI X tg e t) (i : ∀ σ H Q, t' σ H Q → t σ H Q) : PI X tg e t' := ⟨fun pins s σ H Q I q => h.run pins s σ H Q I (i σ H Q q)⟩
section
variable {H : Hp} {P : Addr → Prop} {K : PySem.W.Frag}
theorem seqL_ok {ds : List D} {l k : Lv} {v : V} {f : FP} (h : RepD H P (.lst ds) l v f) (hk : k = l.pred ∨ immL ds = true) : ∃ a xs f', v = .ref a ∧ Rd H a (.lst xs) ∧ xs.length = ds.length ∧ RLst a (ds.map fun d => (d, k)) 0 H P f' ∧ ∀ b, f' b ≤ f b := by
  obtain ⟨a, xs, g, rfl, q, z⟩ := h
  have q' : ∃ g', RepL H P ds k xs g' ∧ ∀ b, g' b ≤ g b := by
    rcases hk with hk | hk
    · subst hk; exact ⟨g, q, fun b => Nat.le_refl _⟩
    · exact ⟨fz, (RepL.imm (P' := P) k hk q).2, fun b => by simp⟩
  obtain ⟨g', q', hg⟩ := q'
  rcases z with ⟨_, z1, z2, z3⟩ | ⟨_, z2, z3⟩
  · subst z3
    exact ⟨a, xs, g', rfl, z2, q.len, ⟨xs, g', .inl ⟨z1, z2, rfl⟩, by rw [List.drop_zero]; exact q'.pairs⟩, hg⟩
  · subst z3
    exact ⟨a, xs, fa (fo a) g', rfl, .inl z2, q.len, ⟨xs, g', .inr ⟨z2, rfl⟩, by rw [List.drop_zero]; exact q'.pairs⟩, fun b => by have := hg b; simp; omega⟩
theorem seqT_ok {ds : List D} {l k : Lv} {v : V} {f : FP} (h : RepD H P (.tup ds) l v f) (hk : k = l.pred ∨ immL ds = true) : ∃ a xs f', v = .ref a ∧ Rd H a (.tup xs) ∧ xs.length = ds.length ∧ RTup a (ds.map fun d => (d, k)) 0 H P f' ∧ ∀ b, f' b ≤ f b := by
  obtain ⟨a, xs, rfl, r, q⟩ := h
  rcases hk with hk | hk
  · subst hk; exact ⟨a, xs, f, rfl, r, q.len, ⟨xs, r, by rw [List.drop_zero]; exact q.pairs⟩, fun b => Nat.le_refl _⟩
  · exact ⟨a, xs, fz, rfl, r, q.len, ⟨xs, r, by rw [List.drop_zero]; exact (RepL.imm (P' := P) k hk q).2.pairs⟩, fun b => by simp⟩
theorem lv_or {ds : List D} {l : Lv} : (if immL ds then Lv.full else l.pred) = l.pred ∨ immL ds = true := by
  by_cases h : immL ds = true
  · exact .inr h
  · rw [if_neg h]; exact .inl rfl
theorem lv_ne {ds : List D} {l : Lv} : (if immL ds then Lv.full else l.pred) ≠ .top := by
  split
  · simp
  · cases l <;> simp [Lv.pred]
end
section
variable {X : Cx} {cs : CS} {W : WC} {m ma mb mc : E} {e a b c o tg : Expr} {es : List Expr} {pos p p2 : Pos}
/-- one part of a walk: its value kept -/
theorem itI1 {m : It} {σ : L2.St} {H : Hp} {Q : L2.It → Hp → Prop} {g : D × Lv → Option (List (D × Lv))} (h : iI cs W m σ H Q) (hm : ∀ e, evalI cs m e = (evalE cs ma e).bind fun x e1 => (use e1 x).bind fun p e2 => ofO ((g p).map fun ps => (ps, none)) e2) {Q' : VK}
    (hQ : ∀ d l ps v H1 P1 f1, RepD H1 P1 d l v f1 → g (d, l) = some ps → (∀ J B f', Wk J B → B ps 0 H1 P1 f' → (∀ b, f' b ≤ f1 b) → Q J H1) → Q' v H1) : tI cs W ma σ H Q' := by
  obtain ⟨e, P, F, S, q⟩ := h
  rw [hm] at q
  refine ⟨e, P, F, S, ?_⟩
  cases ea : evalE cs ma e with
  | stk => rw [ea] at q; exact q
  | exc c e1 => rw [ea] at q; exact q
  | ok x e1 =>
    rw [ea] at q
    intro v H1 P1 F1 f S1 rx fr st
    replace q : PIv W σ H P (tot F) ((use e1 x).bind fun p e2 => ofO ((g p).map fun ps => (ps, none)) e2) Q := q
    rcases use_stk (e := e1) (x := x) with ⟨pr, e2, hu⟩ | hu
    · obtain ⟨d, l⟩ := pr
      rw [hu] at q
      replace q : PIv W σ H P (tot F) (ofO ((g (d, l)).map fun ps => (ps, none)) e2) Q := q
      obtain ⟨P2, F2, f2, S2, r2, fr2, st2⟩ := use_ok S1 rx fr hu
      cases hg : g (d, l) with
      | none => rw [hg] at q; exact q.elim
      | some ps =>
        rw [hg] at q
        replace q : PIv W σ H P (tot F) (.ok (ps, none) e2) Q := q
        refine hQ d l ps v H1 P2 f2 r2 hg fun J B f' w hB hf => ?_
        exact q J B H1 P2 F2 f' w hB trivial S2 (fr2.mono hf) ((st.trans st2).mono (fun _ => Nat.le_refl _) fun b => by have := hf b; simp; omega)
    · rw [hu] at q; exact q.elim
theorem walkS_inv {d : D} {l : Lv} {ps : List (D × Lv)} (h : walkS d l = some ps) : ∃ ds, (d = .lst ds ∨ d = .tup ds) ∧ ps = ds.map fun d => (d, if immL ds then .full else l.pred) := by
  cases d with
  | lst ds => cases h; exact ⟨ds, .inl rfl, rfl⟩
  | tup ds => cases h; exact ⟨ds, .inr rfl, rfl⟩
  | _ => cases h
theorem snd_val (ha : Snd X cs W ma a) : SndI X cs W (.val ma) tg a :=
  ⟨pi_imp (pi_any ha.pe) fun σ H Q h => itI1 (g := fun p => walkD p.1 p.2) h (fun e => by rw [evalI]) fun d l ps v H1 P1 f1 r hg k => by
    have seq : walkS d l = some ps → (∃ a xs, v = .ref a ∧ ((SqL X.K H1 a xs ∧ Q (Itl X.K a) H1) ∨ (SqT X.K H1 a xs ∧ Q (Itt X.K a) H1))) := fun hg => by
      obtain ⟨ds, hd, rfl⟩ := walkS_inv hg
      rcases hd with rfl | rfl
      · obtain ⟨a, xs, f', rfl, h1, h2, h3, h4⟩ := seqL_ok r lv_or
        exact ⟨a, xs, rfl, .inl ⟨.inl h1, k _ _ f' (wk_lst a) h3 h4⟩⟩
      · obtain ⟨a, xs, f', rfl, h1, h2, h3, h4⟩ := seqT_ok r lv_or
        exact ⟨a, xs, rfl, .inr ⟨.inl h1, k _ _ f' (wk_tup a) h3 h4⟩⟩
    cases d with
    | str s =>
      refine .inr ⟨s, r.1, ?_⟩
      have hg' : some (s.cps.toList.map fun c => (D.str ⟨#[c]⟩, Lv.full)) = some ps := hg
      injection hg' with hg'
      subst hg'
      exact k _ _ fz (wk_str s) ⟨by rw [List.drop_zero, List.map_map]; rfl, rfl⟩ fun b => by simp
    | _ => exact .inl (seq hg), plX_fold ha.pl _⟩
theorem snd_enu {p pos tpos : Pos} {elts : List Expr} {kk : Nat} (g1 : Gl X "enumerate") (m1 : X.mg "enumerate" = none) (ha : Snd X cs W ma a) : SndI X cs W (.enu ma) (.Tuple elts kk tpos) (.Call (.Name "enumerate" p) [a] [] pos) :=
  ⟨pi_imp (pi_enumA g1 m1 ha.pe (plX_star ha.pl _ _)) fun σ H Q h => itI1 (g := fun p => (walkS p.1 p.2).map fun ps => enumP 0 ps) h (fun e => by
      rw [evalI]
      congr 1
      funext x e1
      congr 1
      funext p e2
      rw [Option.map_map]; rfl) fun d l ps v H1 P1 f1 r hg k => by
    obtain ⟨qs, hg2, e⟩ := Option.map_eq_some_iff.mp hg
    subst e
    obtain ⟨ds, hd, rfl⟩ := walkS_inv (d := d) (l := l) hg2
    have nt : ∀ p ∈ ds.map (fun d => (d, if immL ds then Lv.full else l.pred)), p.2 ≠ Lv.top := fun p hp => by
      obtain ⟨d, _, rfl⟩ := List.mem_map.mp hp
      exact lv_ne
    rcases hd with rfl | rfl
    · obtain ⟨a, xs, f', rfl, h1, h2, h3, h4⟩ := seqL_ok r lv_or
      exact ⟨a, xs, rfl, .inl ⟨.inl h1, k _ _ f' (wk_enumL a) ⟨_, rfl, nt, h3⟩ h4⟩⟩
    · obtain ⟨a, xs, f', rfl, h1, h2, h3, h4⟩ := seqT_ok r lv_or
      exact ⟨a, xs, rfl, .inr ⟨.inl h1, k _ _ f' (wk_enumT a) ⟨_, rfl, nt, h3⟩ h4⟩⟩, fun x => rfl⟩
theorem snd_rvd {p pos : Pos} (g1 : Gl X "reversed") (m1 : X.mg "reversed" = none) (ha : Snd X cs W ma a) : SndI X cs W (.rvd ma) tg (.Call (.Name "reversed" p) [a] [] pos) :=
  ⟨pi_imp (RT.pi_revA g1 m1 ha.pe (plX_star ha.pl _ _)) fun σ H Q h => itI1 (g := fun p => (walkS p.1 p.2).map fun ps => ps.reverse) h (fun e => by
      rw [evalI]
      congr 1
      funext x e1
      congr 1
      funext p e2
      rw [Option.map_map]; rfl) fun d l ps v H1 P1 f1 r hg k => by
    obtain ⟨qs, hg2, e⟩ := Option.map_eq_some_iff.mp hg
    subst e
    obtain ⟨ds, hd, rfl⟩ := walkS_inv (d := d) (l := l) hg2
    rcases hd with rfl | rfl
    · obtain ⟨a, xs, f', rfl, h1, h2, ⟨ys, g, h3, h5⟩, h4⟩ := seqL_ok r lv_or
      have e : ys = xs := by
        have z := h3.rd
        rcases z with z | ⟨o, z⟩ <;> rcases h1 with y | ⟨o', y⟩ <;> rw [y] at z <;> cases z <;> rfl
      subst e
      refine ⟨a, ys, rfl, .inl ⟨.inl h1, k _ _ f' (wk_rev a ys.length) ⟨ys, g, h3, rfl, ?_⟩ h4⟩⟩
      rw [List.drop_zero] at h5 ⊢
      exact h5.rev
    · obtain ⟨a, xs, f', rfl, h1, h2, ⟨ys, h3, h5⟩, h4⟩ := seqT_ok r lv_or
      have e : ys = xs := by
        rcases h3 with z | ⟨o, z⟩ <;> rcases h1 with y | ⟨o', y⟩ <;> rw [y] at z <;> cases z <;> rfl
      subst e
      refine ⟨a, ys, rfl, .inr ⟨.inl h1, k _ _ f' (wk_revT a ys.length) ⟨ys, h1, rfl, ?_⟩ h4⟩⟩
      rw [List.drop_zero] at h5 ⊢
      exact h5.rev, fun x => rfl⟩
/-- a slot's own list, hidden meanwhile -/
def RHid (a : Addr) (xs : List V) (ds : List D) (k : Lv) : List (D × Lv) → Nat → Hp → (Addr → Prop) → FP → Prop := fun ps j H P f => ps = (ds.drop j).map (fun d => (d, k)) ∧ H a = some (.lst xs) ∧ f = fo a ∧ RepL H P ds k xs fz
theorem wk_hid {K : PySem.W.Frag} (a : Addr) (xs : List V) (ds : List D) (k : Lv) : Wk (Itl K a) (RHid a xs ds k) where
  car := fun {ps i H H' P P' f T T'} ⟨h1, h2, h3, h4⟩ st fr hp => by
    subst h3
    exact ⟨h1, st.keep a _ h2 (fr a (by simp [fo_same])).2.1, rfl, h4.car (st.car Frm.z hp)⟩
  nil := fun {i H P f} ⟨h1, h2, h3, h4⟩ => by
    have := congrArg List.length h1
    rw [List.length_map, List.length_drop, ← h4.len] at this
    simp at this
    exact ⟨xs, .inl (.inl h2), by omega⟩
  go := fun {d l ps i H P f} ⟨h1, h2, h3, h4⟩ => by
    cases q : ds.drop i with
    | nil => rw [q] at h1; cases h1
    | cons z r =>
      obtain ⟨v, g, e1, _⟩ := h4.get (drop_cons q).1
      exact ⟨xs, v, .inl (.inl h2), e1⟩
  cons := fun {d l ps i H H' P f T x} ⟨h1, h2, h3, h4⟩ fr hp hy => by
    cases q : ds.drop i with
    | nil => rw [q] at h1; cases h1
    | cons z r =>
      rw [q] at h1
      injection h1 with h5 h6
      injection h5 with h7 h8
      subst h3
      obtain ⟨e3, e4⟩ := drop_cons q
      obtain ⟨rfl, hy⟩ := hy
      obtain ⟨v, g, e1, e2, e5⟩ := h4.get e3
      have hx := hy xs (.inl (.inl h2))
      rw [e1] at hx
      cases hx
      have eg : g = fz := funext fun b => Nat.le_zero.mp (e5 b)
      subst eg
      rw [h7, h8]
      exact ⟨fz, fo a, fun b => by simp, e2, ⟨by rw [e4]; exact h6, h2, rfl, h4⟩, .inl rfl⟩
theorem snd_hid {i : Nat} {x : Str} (hN : X.N[i]? = some x) (hv : Vis X.env.scope x) (hd : (x == ("__debug__" : Str)) = false) (hcd : (x == ("__classdict__" : Str)) = false) : SndI X cs W (.hid i) tg (.Name x pos) :=
  ⟨pi_imp (pi_any (pe_var hN hv hd hcd)) fun σ H Q h => by
    obtain ⟨e, P, F, S, q⟩ := h
    rw [evalI] at q
    split at q
    · rename_i ds l hg
      split at q
      · rename_i hl
        subst hl
        obtain ⟨v, f, h1, h2, h3⟩ := S.rel.get (gt_own hg)
        have hz : f = fz := by
          obtain ⟨a, xs, g, _, y1, y2⟩ := h3
          rcases y2 with ⟨_, _, _, y3⟩ | ⟨y3, _⟩
          · subst y3; exact RepL.sh_z y1
          · exact absurd rfl y3
        subst hz
        obtain ⟨a, xs, f', rfl, h5, h6, h7, h8⟩ := seqL_ok (k := if immL ds then Lv.full else Lv.sh) h3 (lv_or (l := .sh))
        have hz : f' = fz := funext fun b => Nat.le_zero.mp (h8 b)
        subst hz
        exact ⟨.ref a, h1, .inl ⟨a, xs, rfl, .inl ⟨.inl h5, q _ _ H P F fz (wk_lst a) h7 trivial S Frm.z ((Stp.refl H P _).mono (fun _ => Nat.le_refl _) fun b => by simp)⟩⟩⟩
      rename_i hl
      obtain ⟨a, xs, g, h1, h2, h3, h4, h5, h6, h7⟩ := S.lst hg hl
      have rel := Rels.kill (i := i) (some (V.ref a)) S.rel
      rw [set_get_self h1] at rel
      have ts : ∀ b, tot (F.set i fz) b + (fo a b + g b) = tot F b := fun b => by
        have := tot_set fz b h2
        simpa using this
      refine ⟨.ref a, h1, .inl ⟨a, xs, rfl, .inl ⟨.inl (.inl h4), ?_⟩⟩⟩
      split at q
      · rename_i hi
        obtain ⟨z1, z2⟩ := RepL.imm (P' := P) .full hi h5
        subst z1
        refine q (Itl X.K a) (RHid a xs ds .full) H P (F.set i fz) (fo a) (wk_hid a xs ds .full) ⟨by rw [List.drop_zero], h4, rfl, z2⟩ ⟨.ref a, .lst ds, l, h1, rfl, fun ps j H P f hB => ?_⟩ ⟨rel, fun b => ?_, fun b z => ?_, S.inP, fun b z => S.inT b (by have := ts b; omega)⟩ (fun b z => ?_) ?_
        · obtain ⟨y1, y2, y3, y4⟩ := hB
          subst y3
          exact ⟨a, xs, fz, rfl, (RepL.imm (P' := P) l.pred hi y4).2, .inr ⟨hl, y2, (fa_z _).symm⟩⟩
        · have := ts b; have := S.one b; omega
        · have := ts b; have := S.sep b z; omega
        · have y1 := ts b; have y2 := S.one b
          refine ⟨by omega, by omega, fun z' => by have := S.sep b z'; omega, S.inT b (by omega)⟩
        · exact (Stp.refl H P _).mono (fun _ => Nat.le_refl _) fun b => by have := ts b; simp; omega
      · rename_i hi
        have qs : RepL H (pAdd P g) ds .sh xs fz := RepL.shr (fun _ h => .inl h) (fun _ h => .inr h) h5
        refine q (Itl X.K a) (RHid a xs ds .sh) H (pAdd P g) (F.set i fz) (fo a) (wk_hid a xs ds .sh) ⟨by rw [List.drop_zero], h4, rfl, qs⟩ ⟨.ref a, .lst ds, .top, h1, rfl, fun ps j H P f hB => ?_⟩ ⟨rel.car ⟨fun _ _ _ h => h, fun _ _ _ h => h, fun _ _ h => h, fun _ h => .inl h⟩, fun b => ?_, fun b z => ?_, fun b z => ?_, fun b z => S.inT b (by have := ts b; omega)⟩ (fun b z => ?_) ?_
        · obtain ⟨y1, y2, y3, y4⟩ := hB
          subst y3
          exact ⟨a, xs, fz, rfl, y4, .inr ⟨by simp, y2, (fa_z _).symm⟩⟩
        · have := ts b; have := S.one b; omega
        · have := ts b
          have := S.one b
          rcases z with z | z
          · have := S.sep b z; omega
          · omega
        · rcases z with z | z
          · exact S.inP b z
          · exact S.inT b (by have := ts b; omega)
        · have y1 := ts b; have y2 := S.one b
          refine ⟨by omega, by omega, fun z' => ?_, S.inT b (by omega)⟩
          rcases z' with z' | z'
          · have := S.sep b z'; omega
          · omega
        · exact .share (fun b => by have := ts b; omega) fun b => by have := ts b; simp; omega
    · exact q.elim, fun x => rfl⟩
end
end VI
namespace VI
open PySem PySem.Spec PyProof.Rows L2
section
variable {cs : CS} {W : WC} {σ : L2.St} {H : Hp} {Q : L2.It → Hp → Prop}
abbrev RIt := R (List (D × Lv) × Option (Nat × Slot))
theorem PIv.from {H1 : Hp} {P P1 : Addr → Prop} {T T1 : FP} {r : RIt} (s : Stp H P T H1 P1 T1) (h : PIv W σ H P T r Q) : PIv W σ H1 P1 T1 r Q := by
  cases r with
  | ok p e' =>
    obtain ⟨ps, o⟩ := p
    exact fun J B H' P' F' f w hB hd S fr st => h J B H' P' F' f w hB hd S fr (s.trans st)
  | exc c e' => exact fun H' P' F' S st => h H' P' F' S (s.trans st)
  | stk => exact h
/-- behind some parts of a walk -/
def NsI (W : WC) (σ : L2.St) (vs : List V) (H : Hp) (G : List X → Env → RIt) (Q : L2.It → Hp → Prop) : Prop :=
  ∃ xs e P F f, St0 σ e H P F ∧ RXs σ H P xs vs f ∧ Frm f H P (tot F) ∧ PIv W σ H P (fa (tot F) f) (G xs e) Q
theorem NsI.start {m : It} {G : List X → Env → RIt} (h : iI cs W m σ H Q) (hg : ∀ e, evalI cs m e = G [] e) : NsI W σ [] H G Q := by
  obtain ⟨e, P, F, S, q⟩ := h
  refine ⟨[], e, P, F, fz, S, ⟨rfl, rfl⟩, Frm.z, ?_⟩
  rw [fa_z, ← hg]
  exact q
theorem NsI.next {vs : List V} {G G' : List X → Env → RIt} {a : E} (h : NsI W σ vs H G Q) (hg : ∀ xs e, xs.length = vs.length → G xs e = (evalE cs a e).bind fun y e' => G' (xs ++ [y]) e') :
    tI cs W a σ H fun v H' => NsI W σ (vs ++ [v]) H' G' Q := by
  obtain ⟨xs, e, P, F, f, S, rx, fr, q⟩ := h
  refine ⟨e, P, F, S, ?_⟩
  rw [hg xs e rx.len] at q
  cases ea : evalE cs a e with
  | stk => rw [ea] at q; exact q
  | exc c e' =>
    rw [ea] at q
    intro H' P' F' S' st
    exact q H' P' F' S' ((st.wide f).mono (fun _ => Nat.le_refl _) fun a => by simp)
  | ok y e' =>
    rw [ea] at q
    intro v H' P' F' g S' ry fg st
    have fr' := st.frm fr
    refine ⟨xs ++ [y], e', P', F', fa f g, S', (rx.car (st.car fr fun a z => S.sep a z)).app ⟨v, [], g, fz, rfl, ry, ⟨rfl, rfl⟩, (fa_z g).symm⟩, ?_, ?_⟩
    · rw [fa_comm]; exact fg.join fr'
    · have st' : Stp H P (fa (tot F) f) H' P' (fa (tot F') (fa f g)) := by
        have := st.wide f
        rw [fa_assoc, fa_comm g f] at this
        exact this
      exact PIv.from st' q
theorem rng_px {xs : List X} {vs : List V} {e : Env} {P : Addr → Prop} {F : List FP} {f T : FP} (S : St0 σ e H P F) (rx : RXs σ H P xs vs f) (q : PIv W σ H P T (ofO (((derefs e xs).bind rangeOf).map fun ds => (ds.map fun d => (d, Lv.full), none)) e) Q) :
    ∃ ds rs, derefs e xs = some ds ∧ rangeOf ds = some rs ∧ PIv W σ H P T (.ok (rs.map fun d => (d, Lv.full), none) e) Q := by
  cases hd : derefs e xs with
  | none => rw [hd] at q; exact q.elim
  | some ds =>
    rw [hd] at q
    cases hr : rangeOf ds with
    | none => rw [show (some ds).bind rangeOf = none from hr] at q; exact q.elim
    | some rs => rw [show (some ds).bind rangeOf = some rs from hr] at q; exact ⟨ds, rs, rfl, hr, q⟩
theorem rng_run {J : L2.It} {rs : List D} {e : Env} {P : Addr → Prop} {F : List FP} {T : FP} (S : St0 σ e H P F) (w : Wk J (RVal rs)) (hT : ∀ a, tot F a ≤ T a) (q : PIv W σ H P T (.ok (rs.map fun d => (d, Lv.full), none) e) Q) : Q J H :=
  q J (RVal rs) H P F fz w ⟨by rw [List.drop_zero], rfl⟩ trivial S Frm.z ((Stp.refl H P T).mono (fun _ => Nat.le_refl _) fun a => by simp; exact hT a)
theorem derefs_one {x : X} {e : Env} {ds : List D} (h : derefs e [x] = some ds) : ∃ d, deref e x = some d ∧ ds = [d] := by
  unfold derefs at h
  cases hx : deref e x with
  | none => rw [hx] at h; cases h
  | some d => rw [hx] at h; cases h; exact ⟨d, rfl, rfl⟩
theorem derefs_cons {x : X} {xs : List X} {e : Env} {ds : List D} (h : derefs e (x :: xs) = some ds) : ∃ d r, deref e x = some d ∧ derefs e xs = some r ∧ ds = d :: r := by
  unfold derefs at h
  split at h
  · rename_i d r h1 h2
    cases h
    exact ⟨d, r, h1, h2, rfl⟩
  · cases h
end
section
variable {X : Cx} {cs : CS} {W : WC} {ma mb mc : E} {a b c tg : Expr} {pos p : Pos}
theorem snd_rng1 (g1 : Gl X "range") (m1 : X.mg "range" = none) (ha : Snd X cs W ma a) : SndI X cs W (.rng (.cons ma .nil)) tg (.Call (.Name "range" p) [a] [] pos) :=
  ⟨pi_imp (pi_range1 g1 m1 (pa_cons ha.pe pa_nil (plX_star ha.pl _ _)) (plX_star ha.pl _ _)) (fun σ H Q h => by
    have n : NsI W σ [] H (fun _ e => evalI cs (.rng (.cons ma .nil)) e) Q := NsI.start h fun _ => rfl
    refine tI_mono (n.next (a := ma) (G' := fun xs e1 => ofO (((derefs e1 xs).bind rangeOf).map fun ds => (ds.map fun d => (d, Lv.full), none)) e1) fun xs e hl => ?_) fun v H1 n => ?_
    · cases xs with
      | nil =>
        rw [evalI, evalEs, bind_assoc]
        rfl
      | cons _ _ => cases hl
    · obtain ⟨xs, e, P, F, f, S, rx, fr, q⟩ := n
      obtain ⟨ds, rs, h1, h2, q⟩ := rng_px S rx q
      match xs, rx.len with
      | [x], _ =>
        obtain ⟨v', r, f1, f2, e1, rx, rx2, _⟩ := rx
        injection e1 with e1 e2
        subst e1
        obtain ⟨d, hd, rfl⟩ := derefs_one h1
        obtain ⟨l, g, r⟩ := deref_ok S rx hd
        cases d with
        | int j =>
          have h2' : (if -(2 ^ 62) ≤ j ∧ j < 2 ^ 62 then some ((rangeI 0 j.toNat 1).map D.int) else none) = some rs := h2
          split at h2'
          · rename_i hz
            cases h2'
            exact ⟨j, by rw [rep_int r], hz.1, hz.2, rng_run S (wk_rng 0 j.toNat) (fun a => fa_le a) q⟩
          · cases h2'
        | _ => cases h2), fun x => rfl⟩
theorem snd_rng2 (g1 : Gl X "range") (m1 : X.mg "range" = none) (ha : Snd X cs W ma a) (hb : Snd X cs W mb b) : SndI X cs W (.rng (.cons ma (.cons mb .nil))) tg (.Call (.Name "range" p) [a, b] [] pos) :=
  ⟨pi_imp (pi_range2 g1 m1 (pa_cons ha.pe (pa_cons hb.pe pa_nil (plX_star hb.pl _ _)) (plX_star ha.pl _ _)) (by rw [plX_star ha.pl, plX_star hb.pl]; rfl) (plX_star hb.pl _ _)) (fun σ H Q h => by
    have n : NsI W σ [] H (fun _ e => evalI cs (.rng (.cons ma (.cons mb .nil))) e) Q := NsI.start h fun _ => rfl
    refine tI_mono (n.next (a := ma) (G' := fun xs e1 => (evalE cs mb e1).bind fun y e2 => ofO (((derefs e2 (xs ++ [y])).bind rangeOf).map fun ds => (ds.map fun d => (d, Lv.full), none)) e2) fun xs e hl => ?_) fun v H1 n =>
      tI_mono (n.next (a := mb) (G' := fun xs e1 => ofO (((derefs e1 xs).bind rangeOf).map fun ds => (ds.map fun d => (d, Lv.full), none)) e1) fun xs e hl => rfl) fun w H2 n => ?_
    · cases xs with
      | nil =>
        rw [evalI, evalEs, bind_assoc]
        congr 1
        funext x e1
        rw [evalEs, bind_assoc, bind_assoc]
        rfl
      | cons _ _ => cases hl
    · obtain ⟨xs, e, P, F, f, S, rx, fr, q⟩ := n
      obtain ⟨ds, rs, h1, h2, q⟩ := rng_px S rx q
      match xs, rx.len with
      | [x, y], _ =>
        obtain ⟨v', r', f1, f2, e1, rx, rx2, _⟩ := rx
        obtain ⟨v2, r2, f3, f4, e3, ry, rx3, _⟩ := rx2
        subst e3
        injection e1 with e1 e2
        injection e2 with e2 e4
        subst e1 e2
        obtain ⟨d, r3, hd, h4, rfl⟩ := derefs_cons h1
        obtain ⟨d2, hd2, rfl⟩ := derefs_one h4
        obtain ⟨l, g, r⟩ := deref_ok S rx hd
        obtain ⟨l2, g2, r2⟩ := deref_ok S ry hd2
        cases d with
        | int i =>
          cases d2 with
          | int j =>
            have h2' : (if -(2 ^ 62) ≤ i ∧ i < 2 ^ 62 ∧ -(2 ^ 62) ≤ j ∧ j < 2 ^ 62 then some ((rangeI i (j - i).toNat 1).map D.int) else none) = some rs := h2
            split at h2'
            · rename_i hz
              cases h2'
              exact ⟨i, j, by rw [rep_int r, rep_int r2], hz, rng_run S (wk_rng i (j - i).toNat) (fun a => fa_le a) q⟩
            · cases h2'
          | _ => cases h2
        | _ => cases h2), fun x => rfl⟩
theorem snd_rng3 (g1 : Gl X "range") (m1 : X.mg "range" = none) (ha : Snd X cs W ma a) (hb : Snd X cs W mb b) (hc : Snd X cs W mc c) : SndI X cs W (.rng (.cons ma (.cons mb (.cons mc .nil)))) tg (.Call (.Name "range" p) [a, b, c] [] pos) :=
  ⟨pi_imp (pi_range3 g1 m1 (pa_cons ha.pe (pa_cons hb.pe (pa_cons hc.pe pa_nil (plX_star hc.pl _ _)) (plX_star hb.pl _ _)) (plX_star ha.pl _ _)) (plX_star ha.pl _ _) (plX_any (fun y hy => by
      rcases List.mem_cons.mp hy with rfl | hy
      · exact hb.pl
      · rw [List.mem_singleton.mp hy]; exact hc.pl) _ _)) (fun σ H Q h => by
    have n : NsI W σ [] H (fun _ e => evalI cs (.rng (.cons ma (.cons mb (.cons mc .nil)))) e) Q := NsI.start h fun _ => rfl
    refine tI_mono (n.next (a := ma) (G' := fun xs e1 => (evalE cs mb e1).bind fun y e2 => (evalE cs mc e2).bind fun z e3 => ofO (((derefs e3 (xs ++ [y] ++ [z])).bind rangeOf).map fun ds => (ds.map fun d => (d, Lv.full), none)) e3) fun xs e hl => ?_) fun v H1 n =>
      tI_mono (n.next (a := mb) (G' := fun xs e1 => (evalE cs mc e1).bind fun z e3 => ofO (((derefs e3 (xs ++ [z])).bind rangeOf).map fun ds => (ds.map fun d => (d, Lv.full), none)) e3) fun xs e hl => rfl) fun w H2 n =>
      tI_mono (n.next (a := mc) (G' := fun xs e1 => ofO (((derefs e1 xs).bind rangeOf).map fun ds => (ds.map fun d => (d, Lv.full), none)) e1) fun xs e hl => rfl) fun w H3 n => ?_
    · cases xs with
      | nil =>
        rw [evalI, evalEs, bind_assoc]
        congr 1
        funext x e1
        rw [evalEs, bind_assoc, bind_assoc]
        congr 1
        funext y e2
        rw [evalEs, bind_assoc, bind_assoc]
        rfl
      | cons _ _ => cases hl
    · obtain ⟨xs, e, P, F, f, S, rx, fr, q⟩ := n
      obtain ⟨ds, rs, h1, h2, q⟩ := rng_px S rx q
      match xs, rx.len with
      | [x, y, z], _ =>
        obtain ⟨v', r', f1, f2, e1, rx, rx2, _⟩ := rx
        obtain ⟨v2, r2, f3, f4, e3, ry, rx3, _⟩ := rx2
        obtain ⟨v3, r3, f5, f6, e5, rz, rx4, _⟩ := rx3
        subst e5
        subst e3
        injection e1 with e1 e2
        injection e2 with e2 e4
        injection e4 with e4 e6
        subst e1 e2 e4
        obtain ⟨d, r3, hd, h4, rfl⟩ := derefs_cons h1
        obtain ⟨d2, r4, hd2, h5, rfl⟩ := derefs_cons h4
        obtain ⟨d3, hd3, rfl⟩ := derefs_one h5
        obtain ⟨l, g, r⟩ := deref_ok S rx hd
        obtain ⟨l2, g2, r2⟩ := deref_ok S ry hd2
        obtain ⟨l3, g3, r3⟩ := deref_ok S rz hd3
        unfold rangeOf at h2
        split at h2
        · rename_i he; cases he
        · rename_i he; cases he
        · rename_i i j he
          injection he with he1 he2
          injection he2 with he2 he3
          injection he3 with he3 he4
          subst he1 he2 he3
          split at h2
          · rename_i hz
            cases h2
            exact ⟨i, j, -1, (i - j).toNat, by rw [rep_int r, rep_int r2, rep_int r3], RgC.neg (by omega) (by omega) (by omega) (by omega), rng_run S (wk_rngC i (-1) (i - j).toNat) (fun a => fa_le a) q⟩
          · cases h2
        · cases h2), fun x => rfl⟩
end
end VI
namespace VI
open PySem PySem.Spec PyProof.Rows L2
section
variable {X : Cx} {cs : CS} {W : WC} {ma mb mc : E} {a b c tg : Expr} {pos p tpos : Pos} {elts : List Expr} {kk : Nat}
theorem zip_lv {ds es : List D} {m : Lv} (hm : m ≠ .top) : ((if immL ds && immL es then Lv.full else m) = m.pred ∨ immL ds = true) ∧ ((if immL ds && immL es then Lv.full else m) = m.pred ∨ immL es = true) ∧ (if immL ds && immL es then Lv.full else m) ≠ .top := by
  by_cases h : (immL ds && immL es) = true
  · obtain ⟨h1, h2⟩ := Bool.and_eq_true_iff.mp h
    refine ⟨.inr h1, .inr h2, ?_⟩
    rw [if_pos h]; simp
  · rw [if_neg h]
    exact ⟨.inl (pred_self hm).symm, .inl (pred_self hm).symm, hm⟩
theorem snd_zip (g1 : Gl X "zip") (m1 : X.mg "zip" = none) (ha : Snd X cs W ma a) (hb : Snd X cs W mb b) : SndI X cs W (.zip ma mb) (.Tuple elts kk tpos) (.Call (.Name "zip" p) [a, b] [] pos) :=
  ⟨pi_imp (RZ.pi_zipA g1 m1 (pa_cons ha.pe (pa_cons hb.pe pa_nil (plX_star hb.pl _ _)) (plX_star ha.pl _ _)) (plX_star ha.pl _ _) (plX_any (fun y hy => by rw [List.mem_singleton.mp hy]; exact hb.pl) _ _)) (fun σ H Q h => by
    have n : NsI W σ [] H (fun _ e => evalI cs (.zip ma mb) e) Q := NsI.start h fun _ => rfl
    refine tI_mono (n.next (a := ma) (G' := fun xs e1 => (evalE cs mb e1).bind fun y e2 => (uses (xs ++ [y]) e2).bind fun ps e3 => (match ps with
      | [p, q] => ofO ((zipW (lall ps) p.1 q.1).map fun ps => (ps, none)) e3
      | _ => .stk)) fun xs e hl => ?_) fun v H1 n =>
      tI_mono (n.next (a := mb) (G' := fun xs e1 => (uses xs e1).bind fun ps e3 => (match ps with
      | [p, q] => ofO ((zipW (lall ps) p.1 q.1).map fun ps => (ps, none)) e3
      | _ => .stk)) fun xs e hl => rfl) fun w H2 n => ?_
    · cases xs with
      | nil => rw [evalI]; rfl
      | cons _ _ => cases hl
    · obtain ⟨xs, e, P, F, f, S, rx, fr, q⟩ := n
      replace q : PIv W σ H2 P (fa (tot F) f) ((uses xs e).bind fun ps e3 => (match ps with
        | [p, q] => ofO ((zipW (lall ps) p.1 q.1).map fun ps => (ps, none)) e3
        | _ => .stk)) Q := q
      cases eu : uses xs e with
      | stk => rw [eu] at q; exact q.elim
      | exc c e2 => exact (uses_exc eu).elim
      | ok ps e2 =>
        rw [eu] at q
        obtain ⟨P2, F2, f2, S2, q2, fr2, st2⟩ := uses_ok S rx fr eu
        match ps with
        | [] => exact (show False from q).elim
        | [p] => exact (show False from q).elim
        | _ :: _ :: _ :: _ => exact (show False from q).elim
        | [(d1, l1), (d2, l2)] =>
          replace q : PIv W σ H2 P (fa (tot F) f) (ofO ((zipW (lall [(d1, l1), (d2, l2)]) d1 d2).map fun ps => (ps, none)) e2) Q := q
          have hm := lall_ne [(d1, l1), (d2, l2)]
          generalize lall [(d1, l1), (d2, l2)] = m at q q2 hm
          obtain ⟨v', r', f1, f3, e1, r1, r2, ef⟩ := q2
          obtain ⟨w', r2', f4, f5, e3, r2, ⟨z1, z2⟩, ef2⟩ := r2
          subst z1 z2 e3 ef2 ef
          injection e1 with e1 e2
          injection e2 with e2 _
          subst e1 e2
          rw [fa_z] at fr2 st2
          cases hz : zipW m d1 d2 with
          | none => rw [hz] at q; exact q.elim
          | some ps =>
            rw [hz] at q
            replace q : PIv W σ H2 P (fa (tot F) f) (.ok (ps, none) e2) Q := q
            have fin : ∀ (J : L2.It) (B : List (D × Lv) → Nat → Hp → (Addr → Prop) → FP → Prop) (f' : FP), Wk J B → B ps 0 H2 P2 f' → (∀ b, f' b ≤ fa f1 f4 b) → Q J H2 := fun J B f' w hB hf =>
              q J B H2 P2 F2 f' w hB trivial S2 (fr2.mono hf) (st2.mono (fun _ => Nat.le_refl _) fun b => by have := hf b; simp at this ⊢; omega)
            cases d1 with
            | lst ds =>
              cases d2 with
              | lst es =>
                have hz' : some ((zipD ds es).map fun d => (d, if immL ds && immL es then Lv.full else m)) = some ps := hz
                injection hz' with hz'
                subst hz'
                obtain ⟨c1, c2, c3⟩ := zip_lv (ds := ds) (es := es) hm
                obtain ⟨a1, xs1, g1', ev1, h1, _, h2, h3⟩ := seqL_ok r1 c1
                obtain ⟨a2, xs2, g2', ev2, h4, _, h5, h6⟩ := seqL_ok r2 c2
                subst ev1 ev2
                exact ⟨a1, a2, xs1, xs2, rfl, .inl ⟨.inl h1, .inl h4, fin _ _ (fa g1' g2') (wk_zipL c3 a1 a2) ⟨ds, es, g1', g2', rfl, h2, h5, rfl⟩ fun b => by have := h3 b; have := h6 b; simp; omega⟩⟩
              | _ => cases hz
            | tup ds =>
              cases d2 with
              | tup es =>
                have hz' : some ((zipD ds es).map fun d => (d, if immL ds && immL es then Lv.full else m)) = some ps := hz
                injection hz' with hz'
                subst hz'
                obtain ⟨c1, c2, c3⟩ := zip_lv (ds := ds) (es := es) hm
                obtain ⟨a1, xs1, g1', ev1, h1, _, h2, h3⟩ := seqT_ok r1 c1
                obtain ⟨a2, xs2, g2', ev2, h4, _, h5, h6⟩ := seqT_ok r2 c2
                subst ev1 ev2
                exact ⟨a1, a2, xs1, xs2, rfl, .inr ⟨.inl h1, .inl h4, fin _ _ (fa g1' g2') (wk_zipT c3 a1 a2) ⟨ds, es, g1', g2', rfl, h2, h5, rfl⟩ fun b => by have := h3 b; have := h6 b; simp; omega⟩⟩
              | _ => cases hz
            | _ => cases hz), fun x => rfl⟩
end
end VI
namespace VI
open PySem PySem.Spec PyProof.Rows L2
section
variable {σ : L2.St} {e : Env} {H H' : Hp} {P P' : Addr → Prop} {F : List FP} {f g T : FP}
theorem New.st (n : New H H') (S : St0 σ e H P F) : St0 σ e H' P F := by
  rcases n with rfl | ⟨p, xs, h, rfl⟩
  · exact S
  · exact S.new _ h
theorem New.car (n : New H H') (g : FP) : Car H H' P P g := by
  rcases n with rfl | ⟨p, xs, h, rfl⟩
  · exact ⟨fun _ _ _ h => h, fun _ _ _ h => h, fun _ _ h => h, fun _ h => h⟩
  · exact car_new _ h g
theorem New.stp (n : New H H') : Stp H P T H' P T := by
  rcases n with rfl | ⟨p, xs, h, rfl⟩
  · exact .refl _ _ _
  · exact (Stp.new (P := P) _ h T).mono (fun _ => Nat.le_refl _) fun a => by simp
theorem New.at (n : New H H') {a : Addr} {o : HO} (h : H a = some o) : H' a = some o := by
  rcases n with rfl | ⟨p, xs, h', rfl⟩
  · exact h
  · exact new_ne h' h
/-! ### own slots forgotten -/
theorem wipe_at {j : Nat} : ∀ {vs : List Nat}, (wipe σ vs)[j]? = if j ∈ vs then (if j < σ.length then some none else none) else σ[j]?
  | [] => by simp [wipe]
  | v :: vs => by
    have ih := wipe_at (j := j) (vs := vs)
    unfold wipe
    by_cases h : v = j
    · subst h
      rw [List.getElem?_set]
      simp [wipe_length]
    · rw [List.getElem?_set_ne h, ih]
      have : j ∈ v :: vs ↔ j ∈ vs := by simp [Ne.symm h]
      simp only [this]
theorem wipe_eq {σ' : L2.St} {vs : List Nat} (hl : σ'.length = σ.length) (h : ∀ j, j ∉ vs → σ'[j]? = σ[j]?) : wipe σ' vs = wipe σ vs := by
  apply List.ext_getElem?
  intro j
  rw [wipe_at, wipe_at, hl]
  by_cases hj : j ∈ vs
  · rw [if_pos hj, if_pos hj]
  · rw [if_neg hj, if_neg hj, h j hj]
theorem wipe_wipe {σ' : L2.St} {vs : List Nat} (hl : σ'.length = σ.length) (h : ∀ j, j ∉ vs → σ'[j]? = (wipe σ vs)[j]?) : wipe σ' vs = wipe σ vs :=
  wipe_eq hl fun j hj => by rw [h j hj, wipe_at, if_neg hj]
def wipeF (F : List FP) : List Nat → List FP
  | [] => F
  | i :: is => (wipeF F is).set i fz
theorem wipeF_le (a : Addr) : ∀ vs : List Nat, tot (wipeF F vs) a ≤ tot F a
  | [] => Nat.le_refl _
  | v :: vs => by
    have ih := wipeF_le a vs
    unfold wipeF
    by_cases hv : v < (wipeF F vs).length
    · have := tot_le_set (F := wipeF F vs) (f := fz) hv a
      simp at this
      omega
    · rw [List.set_eq_of_length_le (by omega)]
      exact ih
theorem Rels.wipe (h : Rels H P σ e F) : ∀ vs : List Nat, Rels H P (L2.wipe σ vs) (wipeE e vs) (wipeF F vs)
  | [] => h
  | v :: vs => Rels.kill none (Rels.wipe h vs)
theorem St0.less {σ' : L2.St} {e' : Env} {F' : List FP} (S : St0 σ e H P F) (r : Rels H P σ' e' F') (h : ∀ a, tot F' a ≤ tot F a) : St0 σ' e' H P F' :=
  ⟨r, fun a => Nat.le_trans (h a) (S.one a), fun a z => by have := h a; have := S.sep a z; omega, S.inP, fun a z => S.inT a (Nat.le_trans z (h a))⟩
theorem St0.wipe (S : St0 σ e H P F) (vs : List Nat) : St0 (L2.wipe σ vs) (wipeE e vs) H P (wipeF F vs) := S.less (S.rel.wipe vs) fun a => wipeF_le a vs
/-- what stands in the old slots, if it cannot be changed -/
def Olds (σ : L2.St) (old : Env) (H : Hp) (vs : List Nat) : Prop := ∀ i ∈ vs, ∀ d l, gt old i = .own d l → imm d = true → ∃ v, σ[i]? = some (some v) ∧ ∀ P, RepD H P d .full v fz
theorem Olds.of (S : St0 σ e H P F) (vs : List Nat) : Olds σ e H vs := fun i _ d l h hi => by
  obtain ⟨v, f, h1, h2, h3⟩ := S.rel.get (gt_own h)
  exact ⟨v, h1, fun P' => (RepD.imm (P' := P') .full hi h3).2⟩
theorem Olds.car {old : Env} {vs : List Nat} (h : Olds σ old H vs) (c : ∀ a xs, Rd H a (.tup xs) → Rd H' a (.tup xs)) : Olds σ old H' vs := fun i hi d l hg him => by
  obtain ⟨v, h1, h2⟩ := h i hi d l hg him
  exact ⟨v, h1, fun P => RepD.car (P := fun _ => False) ⟨fun a o z => absurd z (by simp), fun _ _ z => z.elim, c, fun _ z => z.elim⟩ (h2 _)⟩
theorem unwipe_at {old : Env} {j : Nat} : ∀ {vs : List Nat}, (unwipe old e vs)[j]? = if j ∈ vs then (if j < e.length then some (match gt old j with | .own d _ => if imm d then Slot.own d .full else .none | .none => .none) else none) else e[j]?
  | [] => by simp [unwipe]
  | v :: vs => by
    have ih := unwipe_at (old := old) (j := j) (vs := vs)
    have hl : ∀ vs : List Nat, (unwipe old e vs).length = e.length := fun vs => by
      induction vs with
      | nil => rfl
      | cons v vs ih => unfold unwipe; rw [List.length_set, ih]
    unfold unwipe
    by_cases h : v = j
    · subst h
      rw [List.getElem?_set]
      simp [hl] <;> rfl
    · rw [List.getElem?_set_ne h, ih]
      have : j ∈ v :: vs ↔ j ∈ vs := by simp [Ne.symm h]
      simp only [this]
theorem unwipe_len {old : Env} : ∀ vs : List Nat, (unwipe old e vs).length = e.length
  | [] => rfl
  | v :: vs => by unfold unwipe; rw [List.length_set, unwipe_len vs]
/-- the frame again as it was -/
theorem St0.unwipe {old : Env} {vs : List Nat} (S : St0 (L2.wipe σ vs) e H P F) (o : Olds σ old H vs) : St0 σ (VI.unwipe old e vs) H P F := by
  have hl := S.rel.len
  rw [wipe_length] at hl
  refine S.less (Rels.ext (by rw [unwipe_len]; exact hl.1) (by rw [unwipe_len]; exact hl.2) (fun i hi => ?_) fun i d l hi => ?_) fun a => Nat.le_refl _
  · rw [unwipe_at] at hi
    by_cases hv : i ∈ vs
    · rw [if_pos hv] at hi
      -- the wiped slot is none in the frame: so in e
      have hlt : i < e.length := by
        by_cases h : i < e.length
        · exact h
        · rw [if_neg h] at hi; cases hi
      have hw : (L2.wipe σ vs)[i]? = some none := by rw [wipe_at, if_pos hv, if_pos (by omega)]
      have he : e[i]? = some Slot.none := by
        cases q : e[i]? with
        | none => rw [List.getElem?_eq_none_iff] at q; omega
        | some s =>
          cases s with
          | none => rfl
          | own d l =>
            obtain ⟨v, f, z, _⟩ := S.rel.get q
            rw [hw] at z; cases z
      exact S.rel.zero he
    · rw [if_neg hv] at hi
      exact S.rel.zero hi
  · rw [unwipe_at] at hi
    by_cases hv : i ∈ vs
    · rw [if_pos hv] at hi
      have hlt : i < e.length := by
        by_cases h : i < e.length
        · exact h
        · rw [if_neg h] at hi; cases hi
      rw [if_pos hlt] at hi
      have hw : (L2.wipe σ vs)[i]? = some none := by rw [wipe_at, if_pos hv, if_pos (by omega)]
      have he : e[i]? = some Slot.none := by
        cases q : e[i]? with
        | none => rw [List.getElem?_eq_none_iff] at q; omega
        | some s =>
          cases s with
          | none => rfl
          | own d l =>
            obtain ⟨v, f, z, _⟩ := S.rel.get q
            rw [hw] at z; cases z
      have hf := S.rel.zero he
      cases q : gt old i with
      | none => rw [q] at hi; cases hi
      | own d' l' =>
        rw [q] at hi
        replace hi : some (if imm d' = true then Slot.own d' .full else .none) = some (.own d l) := hi
        split at hi
        · rename_i him
          cases hi
          obtain ⟨v, h1, h2⟩ := o i hv _ _ q him
          exact ⟨v, fz, h1, hf, h2 P⟩
        · cases hi
    · rw [if_neg hv] at hi
      obtain ⟨v, f, h1, h2, h3⟩ := S.rel.get hi
      rw [wipe_at, if_neg hv] at h1
      exact ⟨v, f, h1, h2, h3⟩
/-- items at their common level -/
theorem RepP.lower {qs : List (D × Lv)} {xs : List V} (q : RepP H P qs xs f) : ∃ s f', (∀ a, s a ≤ f a) ∧ (∀ a, f' a + s a ≤ f a) ∧ RepL H (pAdd P s) (qs.map (·.1)) (lall qs) xs f' := by
  have full : ∀ {qs : List (D × Lv)} {xs : List V} {f : FP}, lall qs = .full → RepP H P qs xs f → RepL H P (qs.map (·.1)) .full xs f := by
    intro qs
    induction qs with
    | nil => intro xs f _ h; exact h
    | cons p r ih =>
      obtain ⟨d, l⟩ := p
      intro xs f hl h
      obtain ⟨v, r', f1, f2, e, h1, h2, e2⟩ := h
      have : l = .full ∧ lall r = .full := by
        have z : lmin l (lall r) = .full := hl
        revert z
        generalize lall r = m
        cases l <;> cases m <;> simp [lmin]
      rw [this.1] at h1
      exact ⟨v, r', f1, f2, e, h1, ih this.2 h2, e2⟩
  have shr : ∀ {qs : List (D × Lv)} {xs : List V} {f : FP} (P' : Addr → Prop), (∀ a, P a → P' a) → (∀ a, 1 ≤ f a → P' a) → RepP H P qs xs f → RepL H P' (qs.map (·.1)) .sh xs fz := by
    intro qs
    induction qs with
    | nil => intro xs f P' hp hf h; exact ⟨h.1, rfl⟩
    | cons p r ih =>
      obtain ⟨d, l⟩ := p
      intro xs f P' hp hf h
      obtain ⟨v, r', f1, f2, e, h1, h2, e2⟩ := h
      subst e2
      exact ⟨v, r', fz, fz, e, RepD.shr hp (fun a z => hf a (by simp; omega)) h1, ih P' hp (fun a z => hf a (by simp; omega)) h2, rfl⟩
  cases hl : lall qs with
  | full => exact ⟨fz, f, fun a => by simp, fun a => by simp, RepL.car ⟨fun _ _ _ h => h, fun _ _ _ h => h, fun _ _ h => h, fun _ h => .inl h⟩ (full hl q)⟩
  | sh => exact ⟨f, fz, fun a => Nat.le_refl _, fun a => by simp, shr _ (fun _ h => .inl h) (fun _ h => .inr h) q⟩
  | top => exact absurd hl (lall_ne qs)
end
end VI
namespace VI
open PySem PySem.Spec PyProof.Rows L2
theorem bindG_len : ∀ (g : G) {d : D} {l : Lv} {e e' : Env}, bindG g d l e = some e' → e'.length = e.length
  | .nm i, d, l, e, e', h => by
    have h' : (if i < e.length then some (e.set i (.own d (if imm d then .full else l))) else none) = some e' := h
    split at h'
    · injection h' with h'
      rw [← h', List.length_set]
    · cases h'
  | .two a b, d, l, e, e', h => by
    unfold bindG at h
    split at h <;> rename_i he <;> try (cases he; done)
    · cases he
      obtain ⟨e1, b1, b2⟩ := Option.bind_eq_some_iff.mp h
      rw [bindG_len b b2, bindG_len a b1]
    · cases he
      obtain ⟨e1, b1, b2⟩ := Option.bind_eq_some_iff.mp h
      rw [bindG_len b b2, bindG_len a b1]
    · cases h
  | .thr a b c, d, l, e, e', h => by
    unfold bindG at h
    split at h <;> rename_i he <;> try (cases he; done)
    · cases he
      obtain ⟨e1, b1, b2⟩ := Option.bind_eq_some_iff.mp h
      obtain ⟨e2, b2, b3⟩ := Option.bind_eq_some_iff.mp b2
      rw [bindG_len c b3, bindG_len b b2, bindG_len a b1]
    · cases h
  | .fou a b c z, d, l, e, e', h => by
    unfold bindG at h
    split at h <;> rename_i he <;> try (cases he; done)
    · cases he
      obtain ⟨e1, b1, b2⟩ := Option.bind_eq_some_iff.mp h
      obtain ⟨e2, b2, b3⟩ := Option.bind_eq_some_iff.mp b2
      obtain ⟨e3, b3, b4⟩ := Option.bind_eq_some_iff.mp b3
      rw [bindG_len z b4, bindG_len c b3, bindG_len b b2, bindG_len a b1]
    · cases h
def WF : WC := fun _ _ _ => False
/-- a comprehension's test -/
def tTO (cs : CS) (W : WC) (c : Eo) : TT := fun σ H Q => ∃ e P F, St0 σ e H P F ∧ PB W σ H P (tot F) (testO cs c e) Q
/-- one turn -/
def compF (cs : CS) (g : G) (own : List Nat) (c : Eo) (elt : E) : D × Lv → Env → R (Option (D × Lv)) := fun q e2 => match bindG g q.1 q.2 e2 with
  | none => .stk
  | some e3 => (noExc (testO cs c e3)).bind fun t e4 => if t then (noExc (evalE cs elt e4)).bind fun x e5 => (use e5 x).bind fun r e6 => .ok (some r) (wipeE e6 own) else .ok none (wipeE e4 own)
section
variable {cs : CS} {W : WC} {σ : L2.St} {Q : VK} {J : L2.It} {B : List (D × Lv) → Nat → Hp → (Addr → Prop) → FP → Prop} {K : PySem.W.Frag} {own : List Nat} {old : Env} {o : Option (Nat × Slot)} {g : G} {c : Eo} {elt : E} {Dn : Addr}
def finC (own : List Nat) (old : Env) (o : Option (Nat × Slot)) (qs : List (D × Lv)) : List (D × Lv) → Env → R X := fun rs e7 => .ok (mkL ((qs ++ rs).map (·.1)) (lall (qs ++ rs))) (restore (unwipe old e7 own) o)
def stepC (f : D × Lv → Env → R (Option (D × Lv))) (n : Nat) (ps : List (D × Lv)) : Option (D × Lv) → Env → R (List (D × Lv)) := fun r e1 => match r with
  | some q => if n < sizeLine then (compL f (n + 1) ps e1).bind fun rs e2 => .ok (q :: rs) e2 else .stk
  | none => compL f n ps e1
/-- the state ahead of turn i: ps are still to come, qs are made -/
def CInv (cs : CS) (W : WC) (σ : L2.St) (Q : VK) (B : List (D × Lv) → Nat → Hp → (Addr → Prop) → FP → Prop) (own : List Nat) (old : Env) (o : Option (Nat × Slot)) (g : G) (c : Eo) (elt : E) (Dn : Addr) (i m : Nat) (H : Hp) : Prop :=
  ∃ ps qs e P F f fr acc, m = ps.length ∧ St0 (wipe σ own) e H P F ∧ B ps i H P f ∧ RepP H P qs acc fr ∧ H Dn = some (.lst acc) ∧ Frm (fa (fo Dn) (fa f fr)) H P (tot F) ∧ Olds σ old H own ∧
    PX W σ H P (fa (tot F) (fa (fo Dn) (fa f fr))) ((compL (compF cs g own c elt) qs.length ps e).bind (finC own old o qs)) Q
/-- the end -/
theorem comp_end {H : Hp} {qs : List (D × Lv)} {i : Nat} {e : Env} {P : Addr → Prop} {F : List FP} {f fr : FP} {acc : List V} (w : Wk J B) (hid : Hid σ o B) (S : St0 (wipe σ own) e H P F) (hB : B [] i H P f) (ra : RepP H P qs acc fr) (hD : H Dn = some (.lst acc))
    (fm : Frm (fa (fo Dn) (fa f fr)) H P (tot F)) (hO : Olds σ old H own) (q : PX W σ H P (fa (tot F) (fa (fo Dn) (fa f fr))) (.ok (mkL (qs.map (·.1)) (lall qs)) (restore (unwipe old e own) o)) Q) : Q (.ref Dn) H := by
  have S1 := S.unwipe (old := old) hO
  obtain ⟨s, fr', hs, hs', rl⟩ := ra.lower
  have eD : ∀ a, 1 ≤ fo Dn a → fo Dn a = 1 ∧ fa f fr a = 0 ∧ tot F a = 0 ∧ ¬ P a ∧ H a ≠ none := fun a z => by
    obtain ⟨z1, z2, z3, z4⟩ := fm a (by simp; omega)
    simp at z1
    exact ⟨by omega, by simp; omega, z2, z3, z4⟩
  have ef : ∀ a, 1 ≤ f a → fo Dn a = 0 ∧ fr a = 0 ∧ f a = 1 ∧ tot F a = 0 ∧ ¬ P a ∧ H a ≠ none := fun a z => by
    obtain ⟨z1, z2, z3, z4⟩ := fm a (by simp; omega)
    simp at z1
    exact ⟨by omega, by omega, by omega, z2, z3, z4⟩
  have er : ∀ a, 1 ≤ fr a → fo Dn a = 0 ∧ f a = 0 ∧ fr a = 1 ∧ tot F a = 0 ∧ ¬ P a ∧ H a ≠ none := fun a z => by
    obtain ⟨z1, z2, z3, z4⟩ := fm a (by simp; omega)
    simp at z1
    exact ⟨by omega, by omega, by omega, z2, z3, z4⟩
  have S2 : St0 σ (unwipe old e own) H (pAdd P s) F := ⟨Rels.car ⟨fun _ _ _ h => h, fun _ _ _ h => h, fun _ _ h => h, fun _ h => .inl h⟩ S1.rel, S1.one, fun a z => by
      rcases z with z | z
      · exact S1.sep a z
      · exact (er a (Nat.le_trans z (hs a))).2.2.2.1, fun a z => by
      rcases z with z | z
      · exact S1.inP a z
      · exact (er a (Nat.le_trans z (hs a))).2.2.2.2.2, S1.inT⟩
  have rD : RepD H (pAdd P s) (.lst (qs.map (·.1))) (lall qs).succ (.ref Dn) (fa (fo Dn) fr') := by
    refine ⟨Dn, acc, fr', rfl, ?_, .inr ⟨by cases lall qs <;> simp [Lv.succ], hD, rfl⟩⟩
    rw [succ_pred _ (lall_ne qs)]
    exact rl
  have fD : Frm (fa (fo Dn) fr') H (pAdd P s) (tot F) := fun a z => by
    simp at z
    have h1 := hs' a
    by_cases y : 1 ≤ fr' a
    · obtain ⟨z1, z2, z3, z4, z5, z6⟩ := er a (by omega)
      refine ⟨by simp; omega, z4, fun q => ?_, z6⟩
      rcases q with q | q
      · exact z5 q
      · omega
    · obtain ⟨z1, z2, z3, z4, z5⟩ := eD a (by omega)
      simp at z2
      refine ⟨by simp; omega, z3, fun q => ?_, z5⟩
      rcases q with q | q
      · exact z4 q
      · have := hs a; omega
  have st : ∀ T', (∀ a, T' a ≤ fa (tot F) (fa f (fa (fo Dn) fr')) a) → Stp H P (fa (tot F) (fa (fo Dn) (fa f fr))) H (pAdd P s) T' := fun T' hT => .share (fun a => by have := hs a; simp; omega) fun a => by have h1 := hT a; have h2 := hs' a; simp at h1 ⊢; omega
  cases o with
  | none => exact q (.ref Dn) H (pAdd P s) F (fa (fo Dn) fr') S2 rD fD (st _ fun a => by simp)
  | some p =>
    obtain ⟨j, sl⟩ := p
    obtain ⟨v, d, l, h1, rfl, h2⟩ := hid
    have rh : RepD H (pAdd P s) d l v f := RepD.car ⟨fun _ _ _ h => h, fun _ _ _ h => h, fun _ _ h => h, fun _ h => .inl h⟩ (h2 _ _ _ _ _ hB)
    have fh : Frm f H (pAdd P s) (tot F) := fun a z => by
      obtain ⟨z1, z2, z3, z4, z5, z6⟩ := ef a z
      refine ⟨z3, z4, fun q => ?_, z6⟩
      rcases q with q | q
      · exact z5 q
      · have := hs a; omega
    have hj : j < (unwipe old e own).length := by
      have := S2.rel.len.1
      have := (List.getElem?_eq_some_iff.mp h1).1
      omega
    obtain ⟨S3, t3⟩ := S2.bind rh fh hj
    rw [set_get_self h1] at S3
    refine q (.ref Dn) H (pAdd P s) (F.set j f) (fa (fo Dn) fr') S3 rD (fun a z => ?_) (st _ fun a => by have := t3 a; simp; omega)
    obtain ⟨z1, z2, z3, z4⟩ := fD a z
    have := t3 a
    refine ⟨z1, ?_, z3, z4⟩
    simp at z
    have h5 := hs' a
    have : f a = 0 := Nat.eq_zero_of_not_pos fun y => by
      obtain ⟨y1, y2, _⟩ := ef a y
      omega
    omega
/-- a turn -/
theorem comp_turn {H : Hp} {i m : Nat} (w : Wk J B) (hid : Hid σ o B) (hg : ∀ j ∈ g.slots, j ∈ own) (h : CInv cs W σ Q B own old o g c elt Dn i m H) :
    (J.stop i H ∧ Q (.ref Dn) H) ∨ (J.go i H ∧ ∃ Nx : Hp → Prop, (∀ H', Nx H' → ∃ m', m' < m ∧ CInv cs W σ Q B own old o g c elt Dn (i + 1) m' H') ∧ ∀ x H', J.yld i H x H' → tGr K g x (wipe σ own) H' fun σ2 H2 => wipe σ2 own = wipe σ own ∧ tTO cs WF c σ2 H2 fun b H3 =>
      if b = true then tI cs WF elt σ2 H3 fun y H4 => ∃ acc, H4 Dn = some (.lst acc) ∧ acc.length < sizeLine ∧ Nx (upd H4 Dn (.lst (acc ++ [y]))) else Nx H3) := by
  obtain ⟨ps, qs, e, P, F, f, fr, acc, rfl, S, hB, ra, hD, fm, hO, q⟩ := h
  cases ps with
  | nil =>
    refine .inl ⟨w.nil hB, ?_⟩
    refine comp_end (W := W) w hid S hB ra hD fm hO ?_
    have e0 : finC own old o qs [] e = .ok (mkL (qs.map (·.1)) (lall qs)) (restore (unwipe old e own) o) := by
      unfold finC
      rw [List.append_nil]
    replace q : PX W σ H P (fa (tot F) (fa (fo Dn) (fa f fr))) (finC own old o qs [] e) Q := q
    rwa [e0] at q
  | cons p ps =>
    obtain ⟨d, l⟩ := p
    refine .inr ⟨w.go hB, fun H' => CInv cs W σ Q B own old o g c elt Dn (i + 1) ps.length H', fun H' n => ⟨ps.length, by simp, n⟩, fun x H1 y1 => ?_⟩
    have frf : Frm f H P (tot F) := fm.mono fun a => by simp; omega
    obtain ⟨f1, f2, hf, rx, hB1, nw⟩ := w.cons hB frf S.sep y1
    -- the new tuple, if there is one
    have S1 := nw.st S
    have fm1 : Frm (fa (fo Dn) (fa f fr)) H1 P (tot F) := (nw.stp (T := tot F)).frm fm
    have ra1 := ra.car (nw.car (P := P) fr)
    have hD1 := nw.at hD
    have hO1 := hO.car (nw.car (P := P) fz).tup
    replace q := q.from (nw.stp (P := P))
    -- the target
    replace q : PX W σ H1 P (fa (tot F) (fa (fo Dn) (fa f fr))) (((compF cs g own c elt (d, l) e).bind (stepC (compF cs g own c elt) qs.length ps)).bind (finC own old o qs)) Q := q
    rw [bind_assoc] at q
    unfold compF at q
    cases hb : bindG g d l e with
    | none => rw [hb] at q; exact q.elim
    | some e3 =>
      rw [hb] at q
      have frx : Frm f1 H1 P (tot F) := fm1.mono fun a => by have := hf a; simp; omega
      refine bind_ok g S1 rx frx hb fun σ2 F3 S3 t3 k3 => ?_
      have hw : wipe σ2 own = wipe σ own := by
        refine wipe_wipe ?_ fun j hj => k3 j fun z => hj (hg j z)
        have z1 := S3.rel.len.1
        have z2 := S1.rel.len.1
        have z3 := S1.rel.len.2
        rw [wipe_length] at z2
        have z4 : e3.length = e.length := bindG_len g hb
        omega
      refine ⟨hw, ?_⟩
      have fm3 : Frm (fa (fo Dn) (fa f2 fr)) H1 P (tot F3) := fun a z => by
        simp at z
        have h1 := hf a
        have h2 := t3 a
        obtain ⟨z1, z2, z3, z4⟩ := fm1 a (by simp; omega)
        simp at z1
        exact ⟨by simp; omega, by omega, z3, z4⟩
      replace q := q.from (T1 := fa (tot F3) (fa (fo Dn) (fa f2 fr))) ((Stp.refl H1 P _).mono (fun _ => Nat.le_refl _) fun a => by have := t3 a; have := hf a; simp; omega)
      -- the test
      refine ⟨e3, P, F3, S3, ?_⟩
      replace q : PX W σ H1 P (fa (tot F3) (fa (fo Dn) (fa f2 fr))) (((noExc (testO cs c e3)).bind fun t e4 => if t then (noExc (evalE cs elt e4)).bind fun x e5 => (use e5 x).bind fun r e6 => .ok (some r) (wipeE e6 own) else .ok none (wipeE e4 own)).bind fun x e => (stepC (compF cs g own c elt) qs.length ps x e).bind (finC own old o qs)) Q := q
      cases et : testO cs c e3 with
      | stk => rw [et] at q; exact q
      | exc c' e' => rw [et] at q; exact q.elim
      | ok t e4 =>
        rw [et] at q
        intro H4 P4 F4 S4 st4
        have fm4 := st4.frm fm3
        have c4 := st4.car fm3 S3.sep
        have ra4 := ra1.car (c4.mono fun a => by simp; omega)
        have hD4 : H4 Dn = some (.lst acc) := c4.own Dn _ (by simp [fo_same]) hD1
        have hB4 := w.car hB1 st4 (fm3.mono fun a => by simp; omega) S3.sep
        have hO4 := hO1.car st4.tups
        replace q := q.from (st4.wide (fa (fo Dn) (fa f2 fr)))
        cases t with
        | false =>
          replace q : PX W σ H4 P4 (fa (tot F4) (fa (fo Dn) (fa f2 fr))) ((compL (compF cs g own c elt) qs.length ps (wipeE e4 own)).bind (finC own old o qs)) Q := q
          have S5 := S4.wipe own
          rw [hw] at S5
          exact ⟨ps, qs, _, P4, _, f2, fr, acc, rfl, S5, hB4, ra4, hD4, fm4.less fun a => wipeF_le a own, hO4, q.from ((Stp.refl H4 P4 _).mono (fun _ => Nat.le_refl _) fun a => by have := wipeF_le (F := F4) a own; simp; omega)⟩
        | true =>
          replace q : PX W σ H4 P4 (fa (tot F4) (fa (fo Dn) (fa f2 fr))) (((noExc (evalE cs elt e4)).bind fun x e5 => (use e5 x).bind fun r e6 => .ok (some r) (wipeE e6 own)).bind fun x e => (stepC (compF cs g own c elt) qs.length ps x e).bind (finC own old o qs)) Q := q
          refine ⟨e4, P4, F4, S4, ?_⟩
          cases ee : evalE cs elt e4 with
          | stk => rw [ee] at q; exact q
          | exc c' e' => rw [ee] at q; exact q.elim
          | ok x5 e5 =>
            rw [ee] at q
            intro y H5 P5 F5 fy S5 ry fry st5
            replace q : PX W σ H4 P4 (fa (tot F4) (fa (fo Dn) (fa f2 fr))) (((use e5 x5).bind fun r e6 => .ok (some r) (wipeE e6 own)).bind fun x e => (stepC (compF cs g own c elt) qs.length ps x e).bind (finC own old o qs)) Q := q
            rcases use_stk (e := e5) (x := x5) with ⟨r, e6, hu⟩ | hu
            · obtain ⟨dr, lr⟩ := r
              rw [hu] at q
              replace q : PX W σ H4 P4 (fa (tot F4) (fa (fo Dn) (fa f2 fr))) ((if qs.length < sizeLine then (compL (compF cs g own c elt) (qs.length + 1) ps (wipeE e6 own)).bind fun rs e2 => .ok ((dr, lr) :: rs) e2 else .stk).bind (finC own old o qs)) Q := q
              split at q
              · rename_i hz
                obtain ⟨P6, F6, f6, S6, r6, fr6, st6⟩ := use_ok S5 ry fry hu
                have st56 := st5.trans st6
                have fm6 := st56.frm fm4
                have c6 := st56.car fm4 S4.sep
                have ra6 := ra4.car (c6.mono fun a => by simp; omega)
                have hD5 : H5 Dn = some (.lst acc) := c6.own Dn _ (by simp [fo_same]) hD4
                have hB6 := w.car hB4 st56 (fm4.mono fun a => by simp; omega) S4.sep
                have hO6 := hO4.car st56.tups
                have hl := ra.len
                refine ⟨acc, hD5, by omega, ?_⟩
                -- the list at Dn grows
                have pD : ¬ P6 Dn := (fm6 Dn (by simp [fo_same])).2.2.1
                have tD : tot F6 Dn = 0 ∧ f6 Dn = 0 := by
                  have := (fm6 Dn (by simp [fo_same])).2.1
                  simpa using this
                have gD : fa f2 fr Dn = 0 := by
                  have := (fm6 Dn (by simp [fo_same])).1
                  simp [fo_same] at this
                  simp; omega
                have cm : ∀ g : FP, g Dn = 0 → Car H5 (upd H5 Dn (.lst (acc ++ [y]))) P6 P6 g := fun g hg => car_mut hD5 rfl pD hg
                have inH : ∀ b, H5 b ≠ none → upd H5 Dn (.lst (acc ++ [y])) b ≠ none := fun b z => by
                  by_cases eb : b = Dn
                  · subst eb; rw [upd_same]; simp
                  · rw [upd_ne eb]; exact z
                have S7 : St0 σ2 e6 (upd H5 Dn (.lst (acc ++ [y]))) P6 F6 := ⟨Rels.car (cm _ tD.1) S6.rel, S6.one, S6.sep, fun a z => inH a (S6.inP a z), fun a z => inH a (S6.inT a z)⟩
                have st7 : ∀ T : FP, T Dn ≠ 0 → Stp H5 P6 T (upd H5 Dn (.lst (acc ++ [y]))) P6 T := fun T hT => ⟨fun a o h z => by
                    have : a ≠ Dn := fun e => by subst e; exact hT z
                    rw [upd_ne this]; exact h, (cm fz rfl).tup, fun _ z => .inl z, fun _ z => z, fun _ z => .inl z, inH⟩
                have S8 := S7.wipe own
                rw [hw] at S8
                have big : Frm (fa (fo Dn) (fa f2 (fa fr f6))) H5 P6 (tot F6) := fun a z => by
                  by_cases z6 : 1 ≤ f6 a
                  · obtain ⟨y1, y2, y3, y4⟩ := fr6 a z6
                    have : fa (fo Dn) (fa f2 fr) a = 0 := Nat.eq_zero_of_not_pos fun z' => by
                      have := (fm6 a z').2.1
                      simp at this; omega
                    simp at this
                    exact ⟨by simp; omega, y2, y3, y4⟩
                  · obtain ⟨y1, y2, y3, y4⟩ := fm6 a (by simp at z ⊢; omega)
                    simp at y1 y2
                    exact ⟨by simp; omega, by omega, y3, y4⟩
                have stw : Stp H5 P6 (fa (tot F6) f6) (upd H5 Dn (.lst (acc ++ [y]))) P6 (fa (tot F6) f6) ∨ True := .inr trivial
                refine ⟨ps, qs ++ [(dr, lr)], _, P6, _, f2, fa fr f6, acc ++ [y], rfl, S8, ?_, ?_, upd_same, ?_, hO6.car (cm fz rfl).tup, ?_⟩
                · -- the walker: the step at Dn, as of frames that hold Dn
                  refine w.car hB6 (T := fo Dn) (T' := fo Dn) (P' := P6) (st7 (fo Dn) (by rw [fo_same]; simp)) (fun a z => ?_) (fun a z => ?_)
                  · obtain ⟨y1, y2, y3, y4⟩ := fm6 a (by simp; omega)
                    simp at y1
                    exact ⟨by omega, by omega, y3, y4⟩
                  · refine Nat.eq_zero_of_not_pos fun z' => ?_
                    have := (fm6 a (by simp; omega)).2.2.1
                    exact this z
                · refine RepP.app (ra6.car (cm _ (by simp at gD; omega))) ⟨y, [], f6, fz, rfl, r6.car (cm _ tD.2), ⟨rfl, rfl⟩, (fa_z _).symm⟩
                · intro a z
                  obtain ⟨y1, y2, y3, y4⟩ := big a z
                  exact ⟨y1, by have := wipeF_le (F := F6) a own; omega, y3, inH a y4⟩
                · rw [List.length_append]
                  rw [bind_assoc] at q
                  have q2 := q.from (st56.wide (fa (fo Dn) (fa f2 fr)))
                  have q3 := q2.from (T1 := fa (tot F6) (fa (fo Dn) (fa f2 (fa fr f6)))) ((Stp.refl H5 P6 _).mono (fun _ => Nat.le_refl _) fun a => by simp; omega)
                  have q4 := q3.from (st7 _ (by simp [fo_same]))
                  have q5 := q4.from (T1 := fa (tot (wipeF F6 own)) (fa (fo Dn) (fa f2 (fa fr f6)))) ((Stp.refl _ P6 _).mono (fun _ => Nat.le_refl _) fun a => by have := wipeF_le (F := F6) a own; simp; omega)
                  have ee : (fun (x : List (D × Lv)) (e : Env) => (R.ok ((dr, lr) :: x) e : R (List (D × Lv))).bind (finC own old o qs)) = finC own old o (qs ++ [(dr, lr)]) := by
                    funext rs e7
                    show finC own old o qs ((dr, lr) :: rs) e7 = _
                    unfold finC
                    rw [List.append_assoc]; rfl
                  rw [ee] at q5
                  exact q5
              · exact q.elim
            · rw [hu] at q; exact q.elim
end
end VI
namespace VI
open PySem PySem.Spec PyProof.Rows L2
section
variable {X : Cx} {cs : CS} {W : WC} {g : G} {own : List Nat} {it : It} {c : Eo} {elt m : E} {σ : L2.St} {H : Hp} {Q : VK} {K : PySem.W.Frag}
theorem comp_read (hg : ∀ j ∈ g.slots, j ∈ own) (h : tI cs W (.comp g own it c elt) σ H Q) : tLc (iI cs W it) (tGr K g) (tTO cs WF c) (tI cs WF elt) own σ H Q := by
  obtain ⟨e, P, F, S, q⟩ := h
  rw [evalE] at q
  refine ⟨e, P, F, S, ?_⟩
  cases ei : evalI cs it e with
  | stk => rw [ei] at q; exact q
  | exc c' e' => rw [ei] at q; exact q
  | ok p e1 =>
    obtain ⟨ps, o⟩ := p
    rw [ei] at q
    intro J B H1 P1 F1 f w hB hid S1 fr st Dn hDn
    replace q : PX W σ H P (tot F) ((compL (compF cs g own c elt) 0 ps (wipeE e1 own)).bind fun rs e7 => .ok (mkL (rs.map (·.1)) (lall rs)) (restore (unwipe e1 e7 own) o)) Q := q
    refine ⟨CInv cs W σ Q B own e1 o g c elt Dn, ⟨ps.length, ?_⟩, fun i m H h => comp_turn w hid hg h⟩
    have S2 := S1.new (.lst []) hDn
    have S3 := S2.wipe own
    have stn := Stp.new (P := P1) (.lst []) hDn (fa (tot F1) f)
    have frn := fr.new S1 (.lst []) hDn
    have hf0 : f Dn = 0 := Nat.eq_zero_of_not_pos fun z => (fr Dn z).2.2.2 hDn
    refine ⟨ps, [], _, P1, _, f, fz, [], rfl, S3, w.car hB (Stp.new (P := P1) (.lst []) hDn (tot F1)) fr S1.sep, ⟨rfl, rfl⟩, upd_same, ?_, (Olds.of S1 own).car (car_new (P := P1) _ hDn fz).tup, ?_⟩
    · rw [fa_z]
      exact frn.less fun a => wipeF_le a own
    · have q2 := (q.from st).from stn
      have q3 := q2.from (T1 := fa (tot (wipeF F1 own)) (fa (fo Dn) (fa f fz))) ((Stp.refl _ P1 _).mono (fun _ => Nat.le_refl _) fun a => by have := wipeF_le (F := F1) a own; simp; omega)
      exact q3
theorem tTO_no {Q : Bool → Hp → Prop} (h : tTO cs W .no σ H Q) : tYes σ H Q := by
  obtain ⟨e, P, F, S, q⟩ := h
  rw [testO] at q
  exact q H P F S (.refl _ _ _)
theorem tTO_so {Q : Bool → Hp → Prop} (h : tTO cs W (.so m) σ H Q) : tT cs W m σ H Q := by
  obtain ⟨e, P, F, S, q⟩ := h
  rw [testO] at q
  exact ⟨e, P, F, S, q⟩
theorem pts_imp {ifs : List Expr} {t t' : TT} (h : PTs X ifs t) (i : ∀ σ H Q, t' σ H Q → t σ H Q) : PTs X ifs t' := ⟨fun pins s σ H Q I q => h.run pins s σ H Q I (i σ H Q q)⟩
theorem snd_if0 : PTs X [] (tTO cs W .no) := pts_imp pts_nil fun σ H Q h => tTO_no h
theorem snd_if1 {e : Expr} (h : Snd X cs W m e) (hi : isIf e = false) : PTs X [e] (tTO cs W (.so m)) := pts_imp (pts_one (h.pt hi)) fun σ H Q h => tTO_so h
theorem snd_comp {e tg iter : Expr} {ifs : List Expr} {scope : Scope} {ownP : List (Str × Nat)} {pos : Pos} (hc : X.calm = true) (hN : X.N.Nodup) (hi : SndI X cs W it tg iter) (ok : BlkOk X.N X.env.scope scope ownP)
    (hg : ∀ (s : Shared) (H : Hp) (C : Addr) (cl : List (Str × Addr)) (fp : List Addr), PG (X.blk s H scope (compEnvC scope cl C X.env) fp) tg (tGr X.K g)) (ht : ∀ (s : Shared) (H : Hp) (C : Addr) (cl : List (Str × Addr)) (fp : List Addr), PTs (X.blk s H scope (compEnvC scope cl C X.env) fp) ifs (tTO cs WF c))
    (he : ∀ (s : Shared) (H : Hp) (C : Addr) (cl : List (Str × Addr)) (fp : List Addr), PE (X.blk s H scope (compEnvC scope cl C X.env) fp) e (tI cs WF elt)) (sub : ∀ j ∈ g.slots, j ∈ ownP.map (·.2)) :
    Snd X cs W (.comp g (ownP.map (·.2)) it c elt) (.ListComp e [⟨tg, iter, ifs, 0⟩] scope pos) :=
  .plain rfl rfl (pe_imp (pe_lc hc hN hi.pi ok hg ht he hi.fo) fun σ H Q h => comp_read sub h)
end
/-! ### targets -/
section
variable {X : Cx}
/-- a name that may be stored -/
def StoOk (X : Cx) (i : Nat) (x : Str) : Prop := X.N[i]? = some x ∧ Loc X.env.scope x ∧ (X.fn x = true ∨ X.env.scope.names.lookup x = some .local)
theorem snd_gnm {i : Nat} {x : Str} {pos : Pos} (hN : X.N.Nodup) (h : StoOk X i x) : PG X (.Name x pos) (tGr X.K (.nm i)) := pg_name hN h.1 h.2.1 h.2.2
theorem pgs2 {a b : Expr} {ta tb : TG} (na : plX a = true) (nb : plX b = true) (ha : PG X a ta) (hb : PG X b tb) : PGs X [a, b] (gCons ta (gCons tb gNil)) :=
  pgs_cons ha (pgs_cons hb pgs_nil (by cases b <;> first | rfl | cases nb)) (by cases a <;> first | rfl | cases na)
end
end VI
namespace VI
open PySem PySem.Spec PyProof.Rows L2
/-! ### calls -/
def zeroF (F : List FP) : List Nat → List FP
  | [] => F
  | i :: is => zeroF (F.set i fz) is
section
variable {σ : L2.St} {e : Env} {H H' : Hp} {P P' : Addr → Prop} {F : List FP} {f g T : FP}
theorem set_le {F : List FP} {i : Nat} (a : Addr) : tot (F.set i fz) a ≤ tot F a := by
  by_cases hi : i < F.length
  · have := tot_le_set (F := F) (f := fz) hi a
    simpa using this
  · rw [List.set_eq_of_length_le (by omega)]; exact Nat.le_refl _
theorem zeroF_le (a : Addr) : ∀ (is : List Nat) (F : List FP), tot (zeroF F is) a ≤ tot F a
  | [], _ => Nat.le_refl _
  | i :: is, F => Nat.le_trans (zeroF_le a is (F.set i fz)) (set_le a)
theorem zeroF_get (a : Addr) : ∀ (is : List Nat) (F : List FP) {i : Nat} {g : FP}, i ∈ is → F[i]? = some g → tot (zeroF F is) a + g a ≤ tot F a
  | [], _, _, _, h, _ => by cases h
  | j :: is, F, i, g, h, hg => by
    show tot (zeroF (F.set j fz) is) a + g a ≤ tot F a
    by_cases e : j = i
    · subst e
      have h1 := zeroF_le a is (F.set j fz)
      have h2 := tot_set fz a hg
      simp at h2
      omega
    · have hi : i ∈ is := (List.mem_cons.mp h).resolve_left fun z => e z.symm
      have h1 := zeroF_get a is (F.set j fz) hi (by rw [List.getElem?_set_ne e]; exact hg)
      have h2 := set_le (F := F) (i := j) a
      omega
theorem zeroF_ne : ∀ (is : List Nat) (F : List FP) {i : Nat}, i ∉ is → (zeroF F is)[i]? = F[i]?
  | [], _, _, _ => rfl
  | j :: is, F, i, h => by
    show (zeroF (F.set j fz) is)[i]? = F[i]?
    rw [zeroF_ne is _ (fun z => h (List.mem_cons_of_mem _ z)), List.getElem?_set_ne (fun z => h (by rw [z]; exact List.mem_cons_self))]
/-- the footprints of the arguments -/
def fsOf (F : List FP) : List Bool → List X → List FP
  | _, [] => []
  | ms, .ali i :: xs => (if ms.headD false then F.getD i fz else fz) :: fsOf F ms.tail xs
  | ms, _ :: xs => fz :: fsOf F ms.tail xs
theorem inSl_ali (ms : List Bool) (i : Nat) (xs : List X) : inSl ms (.ali i :: xs) = if ms.headD false then i :: inSl ms.tail xs else inSl ms.tail xs := rfl
theorem noSl_ali (ms : List Bool) (i : Nat) (xs : List X) : noSl ms (.ali i :: xs) = if ms.headD false then noSl ms.tail xs else i :: noSl ms.tail xs := rfl
theorem fsOf_ali (F : List FP) (ms : List Bool) (i : Nat) (xs : List X) : fsOf F ms (.ali i :: xs) = (if ms.headD false then F.getD i fz else fz) :: fsOf F ms.tail xs := rfl
theorem fsOf_same {F F' : List FP} : ∀ (xs : List X) (ms : List Bool), (∀ i ∈ inSl ms xs, F'[i]? = F[i]?) → fsOf F' ms xs = fsOf F ms xs
  | [], _, _ => rfl
  | .tmp _ _ :: xs, ms, h => by
    show fz :: fsOf F' ms.tail xs = fz :: fsOf F ms.tail xs
    rw [fsOf_same xs ms.tail h]
  | .ali i :: xs, ms, h => by
    show (if ms.headD false then F'.getD i fz else fz) :: fsOf F' ms.tail xs = (if ms.headD false then F.getD i fz else fz) :: fsOf F ms.tail xs
    by_cases hm : ms.headD false = true
    · have h' : ∀ j ∈ i :: inSl ms.tail xs, F'[j]? = F[j]? := fun j hj => h j (by rw [inSl_ali, if_pos hm]; exact hj)
      rw [if_pos hm, if_pos hm, fsOf_same xs ms.tail fun j hj => h' j (List.mem_cons_of_mem _ hj), List.getD_eq_getElem?_getD, List.getD_eq_getElem?_getD, h' i List.mem_cons_self]
    · have h' : ∀ j ∈ inSl ms.tail xs, F'[j]? = F[j]? := fun j hj => h j (by rw [inSl_ali, if_neg hm]; exact hj)
      rw [if_neg hm, if_neg hm, fsOf_same xs ms.tail h']
theorem fsOf_tot (a : Addr) : ∀ (xs : List X) (ms : List Bool) (F : List FP), (inSl ms xs).Nodup → tot (zeroF F (inSl ms xs)) a + tot (fsOf F ms xs) a ≤ tot F a
  | [], ms, F, _ => by show tot F a + 0 ≤ tot F a; omega
  | .tmp _ _ :: xs, ms, F, h => by
    have := fsOf_tot a xs ms.tail F h
    show tot (zeroF F (inSl ms.tail xs)) a + (0 + tot (fsOf F ms.tail xs) a) ≤ tot F a
    omega
  | .ali i :: xs, ms, F, h => by
    by_cases hm : ms.headD false = true
    · have e1 : inSl ms (.ali i :: xs) = i :: inSl ms.tail xs := by rw [inSl_ali, if_pos hm]
      rw [e1] at h ⊢
      obtain ⟨h1, h2⟩ := List.nodup_cons.mp h
      have ih := fsOf_tot a xs ms.tail (F.set i fz) h2
      have e2 : fsOf F ms (.ali i :: xs) = F.getD i fz :: fsOf F ms.tail xs := by rw [fsOf_ali, if_pos hm]
      rw [e2, ← fsOf_same (F := F) (F' := F.set i fz) xs ms.tail fun j hj => List.getElem?_set_ne (fun z => h1 (by rw [z]; exact hj))]
      show tot (zeroF (F.set i fz) (inSl ms.tail xs)) a + (F.getD i fz a + tot (fsOf (F.set i fz) ms.tail xs) a) ≤ tot F a
      rw [List.getD_eq_getElem?_getD]
      cases q : F[i]? with
      | none =>
        have : F.length ≤ i := List.getElem?_eq_none_iff.mp q
        have h3 := set_le (F := F) (i := i) a
        show _ + (fz a + _) ≤ _
        simp; omega
      | some g =>
        have h3 := tot_set fz a q
        simp at h3
        show _ + (g a + _) ≤ _
        omega
    · have e1 : inSl ms (.ali i :: xs) = inSl ms.tail xs := by rw [inSl_ali, if_neg hm]
      have e2 : fsOf F ms (.ali i :: xs) = fz :: fsOf F ms.tail xs := by rw [fsOf_ali, if_neg hm]
      rw [e1] at h ⊢
      rw [e2]
      have := fsOf_tot a xs ms.tail F h
      show tot (zeroF F (inSl ms.tail xs)) a + (0 + tot (fsOf F ms.tail xs) a) ≤ tot F a
      omega
theorem getD_of {F : List FP} {i : Nat} {g : FP} (h : F[i]? = some g) : F.getD i fz = g := by rw [List.getD_eq_getElem?_getD, h]; rfl
/-- the arguments as the callee has them -/
theorem args_rel (S : St0 σ e H P F) (hp : ∀ a, P a → P' a) : ∀ (xs : List X) (ms : List Bool) (vs : List V) (f : FP) (as : List (D × Lv)), RXs σ H P xs vs f → (∀ a, 1 ≤ f a → P' a) → (∀ i ∈ noSl ms xs, ∀ g, F[i]? = some g → ∀ a, 1 ≤ g a → P' a) →
    argsOf e ms xs = some as → Rels H P' (vs.map some) (as.map fun p => Slot.own p.1 p.2) (fsOf F ms xs)
  | [], ms, vs, f, as, rx, _, _, h => by
    obtain ⟨rfl, _⟩ := rx
    have : some ([] : List (D × Lv)) = some as := h
    cases this
    trivial
  | x :: xs, ms, vs, f, as, rx, hf, hno, h => by
    obtain ⟨v, r, f1, f2, rfl, rx1, rx2, rfl⟩ := rx
    have h' : (match argOf e (ms.headD false) x, argsOf e ms.tail xs with | some a, some as => some (a :: as) | _, _ => none) = some as := h
    split at h'
    · rename_i a as' h1 h2
      cases h'
      obtain ⟨d, l⟩ := a
      have no' : ∀ i ∈ noSl ms.tail xs, ∀ g, F[i]? = some g → ∀ a, 1 ≤ g a → P' a := fun i hi => hno i (by
        cases x with
        | tmp _ _ => exact hi
        | ali j =>
          rw [noSl_ali]
          split
          · exact hi
          · exact List.mem_cons_of_mem _ hi)
      have ih := args_rel S hp xs ms.tail r f2 as' rx2 (fun a z => hf a (by simp; omega)) no' h2
      cases hm : ms.headD false with
      | true =>
        rw [hm] at h1
        cases x with
        | tmp _ _ => cases h1
        | ali i =>
          have h1' : (match gt e i with | .own d l => if l = .sh then none else some (d, l) | .none => none) = some (d, l) := h1
          split at h1'
          · rename_i d' l' hg
            split at h1'
            · cases h1'
            · cases h1'
              obtain ⟨v', g, e1, e2, e3⟩ := S.rel.get (gt_own hg)
              obtain ⟨e4, e5⟩ := rx1
              rw [e4] at e1
              cases e1
              have e6 : fsOf F ms (.ali i :: xs) = g :: fsOf F ms.tail xs := by rw [fsOf_ali, if_pos hm, getD_of e2]
              rw [e6]
              exact ⟨e3.car ⟨fun _ _ _ h => h, fun _ _ _ h => h, fun _ _ h => h, hp⟩, ih⟩
          · cases h1'
      | false =>
        rw [hm] at h1
        have h1' : (deref e x).map (fun d => (d, Lv.sh)) = some (d, l) := h1
        obtain ⟨d', hd, e0⟩ := Option.map_eq_some_iff.mp h1'
        cases e0
        cases x with
        | tmp d2 l2 =>
          cases hd
          exact ⟨RepD.shr hp (fun a z => hf a (by simp; omega)) rx1, ih⟩
        | ali i =>
          have e6 : fsOf F ms (.ali i :: xs) = fz :: fsOf F ms.tail xs := by rw [fsOf_ali, if_neg (by rw [hm]; simp)]
          rw [e6]
          have hd' : (match gt e i with | .own d _ => some d | .none => none) = some d := hd
          split at hd'
          · rename_i d2 l2 hg
            cases hd'
            obtain ⟨v', g, e1, e2, e3⟩ := S.rel.get (gt_own hg)
            obtain ⟨e4, e5⟩ := rx1
            rw [e4] at e1
            cases e1
            exact ⟨RepD.shr hp (fun a z => hno i (by rw [noSl_ali, if_neg (by rw [hm]; simp)]; exact List.mem_cons_self) g e2 a z) e3, ih⟩
          · cases hd'
    · cases h'
/-- slots behind the call -/
def backF (F : List FP) : List Bool → List X → List FP → List FP
  | ms, .ali i :: xs, f :: fs => backF (if ms.headD false then F.set i f else F) ms.tail xs fs
  | ms, _ :: xs, _ :: fs => backF F ms.tail xs fs
  | _, _, _ => F
theorem backF_ali (F : List FP) (ms : List Bool) (i : Nat) (xs : List X) (f : FP) (fs : List FP) : backF F ms (.ali i :: xs) (f :: fs) = backF (if ms.headD false then F.set i f else F) ms.tail xs fs := rfl
theorem backTo_ali (e : Env) (ms : List Bool) (i : Nat) (xs : List X) (f : Slot) (fs : List Slot) : backTo e ms (.ali i :: xs) (f :: fs) = backTo (if ms.headD false then e.set i f else e) ms.tail xs fs := rfl
theorem back_ok : ∀ (xs : List X) (ms : List Bool) (vs : List V) (f : FP) (outs : List Slot) (Os F : List FP) (e : Env), Rels H P σ e F → RXs σ H' P' xs vs f → Rels H P (vs.map some) outs Os →
    Rels H P σ (backTo e ms xs outs) (backF F ms xs Os) ∧ ∀ a, tot (backF F ms xs Os) a ≤ tot F a + tot Os a
  | [], ms, vs, f, outs, Os, F, e, r, rx, ro => by
    obtain ⟨rfl, _⟩ := rx
    cases outs with
    | nil => cases Os <;> exact ⟨r, fun a => Nat.le_add_right _ _⟩
    | cons _ _ => simp [Rels] at ro
  | x :: xs, ms, vs, f, outs, Os, F, e, r, rx, ro => by
    obtain ⟨v, rv, f1, f2, rfl, rx1, rx2, rfl⟩ := rx
    cases outs with
    | nil => simp [Rels] at ro
    | cons o os =>
      cases Os with
      | nil => cases o <;> simp [Rels] at ro
      | cons fo' fs =>
        have ro2 : Rels H P (rv.map some) os fs := by cases o <;> exact ro.2
        cases x with
        | tmp d l =>
          obtain ⟨h1, h2⟩ := back_ok xs ms.tail rv f2 os fs F e r rx2 ro2
          exact ⟨h1, fun a => by have := h2 a; show tot (backF F ms.tail xs fs) a ≤ tot F a + (fo' a + tot fs a); omega⟩
        | ali i =>
          by_cases hm : ms.headD false = true
          · have e1 : backTo e ms (.ali i :: xs) (o :: os) = backTo (e.set i o) ms.tail xs os := by rw [backTo_ali, if_pos hm]
            have e2 : backF F ms (.ali i :: xs) (fo' :: fs) = backF (F.set i fo') ms.tail xs fs := by rw [backF_ali, if_pos hm]
            rw [e1, e2]
            have hi : i < e.length := by
              have := r.len.1
              have := (List.getElem?_eq_some_iff.mp rx1.1).1
              omega
            have r2 : Rels H P σ (e.set i o) (F.set i fo') := by
              cases o with
              | none =>
                have hz : fo' = fz := ro.1
                subst hz
                have := Rels.kill (i := i) (some v) r
                rwa [set_get_self rx1.1] at this
              | own d l =>
                have := Rels.put r hi (show RepD H P d l v fo' from ro.1)
                rwa [set_get_self rx1.1] at this
            obtain ⟨h1, h2⟩ := back_ok xs ms.tail rv f2 os fs _ _ r2 rx2 ro2
            refine ⟨h1, fun a => ?_⟩
            have := h2 a
            have h3 : tot (F.set i fo') a ≤ tot F a + fo' a := tot_le_set (by have := r.len.2; omega) a
            show _ ≤ tot F a + (fo' a + tot fs a)
            omega
          · have e1 : backTo e ms (.ali i :: xs) (o :: os) = backTo e ms.tail xs os := by rw [backTo_ali, if_neg hm]
            have e2 : backF F ms (.ali i :: xs) (fo' :: fs) = backF F ms.tail xs fs := by rw [backF_ali, if_neg hm]
            rw [e1, e2]
            obtain ⟨h1, h2⟩ := back_ok xs ms.tail rv f2 os fs F e r rx2 ro2
            exact ⟨h1, fun a => by have := h2 a; show _ ≤ tot F a + (fo' a + tot fs a); omega⟩
theorem killAll_rel : ∀ (is : List Nat) (e : Env) (F : List FP), Rels H P σ e F → Rels H P σ (killAll e is) (zeroF F is)
  | [], e, F, h => h
  | i :: is, e, F, h => by
    refine killAll_rel is _ _ ?_
    cases q : σ[i]? with
    | none =>
      have h1 := List.getElem?_eq_none_iff.mp q
      have h2 := h.len
      rw [List.set_eq_of_length_le (by omega), List.set_eq_of_length_le (by omega)]
      exact h
    | some o =>
      have := Rels.kill (i := i) o h
      rwa [set_get_self q] at this
theorem shareAll_rel (hp : ∀ a, P a → P' a) : ∀ (is : List Nat) (e : Env) (F : List FP), Rels H P' σ e F → (∀ i ∈ is, ∀ g, F[i]? = some g → ∀ a, 1 ≤ g a → P' a) → Rels H P' σ (shareAll e is) (zeroF F is)
  | [], e, F, h, _ => h
  | i :: is, e, F, h, hno => by
    show Rels H P' σ (shareAll (match gt e i with | .own d _ => e.set i (.own d .sh) | .none => e) is) (zeroF (F.set i fz) is)
    have step : Rels H P' σ (match gt e i with | .own d _ => e.set i (.own d .sh) | .none => e) (F.set i fz) := by
      cases q : gt e i with
      | own d l =>
        obtain ⟨v, g, e1, e2, e3⟩ := h.get (gt_own q)
        have hi := (List.getElem?_eq_some_iff.mp (gt_own q)).1
        have := Rels.put h hi (RepD.shr (P' := P') (fun _ z => z) (hno i List.mem_cons_self g e2) e3)
        rwa [set_get_self e1] at this
      | none =>
        cases q2 : e[i]? with
        | none =>
          have h1 := List.getElem?_eq_none_iff.mp q2
          have h2 := h.len
          rw [List.set_eq_of_length_le (by omega)]
          exact h
        | some s =>
          have : s = Slot.none := by rw [← q, gt_of q2]
          subst this
          rw [set_get_self (h.zero q2)]
          exact h
    refine shareAll_rel hp is _ _ step fun j hj g hg a z => ?_
    by_cases ej : i = j
    · subst ej
      have hl : i < F.length := by have := (List.getElem?_eq_some_iff.mp hg).1; rwa [List.length_set] at this
      rw [List.getElem?_set_self hl] at hg
      cases hg
      simp at z
    · rw [List.getElem?_set_ne ej] at hg
      exact hno j (List.mem_cons_of_mem _ hj) g hg a z
mutual
theorem RepD.fullP : ∀ (d : D) (v : V) (f : FP), RepD H P d .full v f → RepD H P' d .full v f
  | .non, _, _, h => h
  | .bl _, _, _, h => h
  | .int _, _, _, h => h
  | .str _, _, _, h => h
  | .hole, _, _, h => h
  | .tup ds, _, _, h => by
    obtain ⟨a, xs, e, r, q⟩ := h
    exact ⟨a, xs, e, r, RepL.fullP ds _ _ q⟩
  | .lst ds, _, _, h => by
    obtain ⟨a, xs, g, e, q, z⟩ := h
    rcases z with ⟨e1, _⟩ | ⟨e1, e3, e4⟩
    · cases e1
    · exact ⟨a, xs, g, e, RepL.fullP ds _ _ q, .inr ⟨e1, e3, e4⟩⟩
  | .dK ds, _, _, h => by
    obtain ⟨a, xs, g, e, q, z⟩ := h
    rcases z with ⟨e1, _⟩ | ⟨e1, e3, e4⟩
    · cases e1
    · exact ⟨a, xs, g, e, RepK.fullP ds _ _ q, .inr ⟨e1, e3, e4⟩⟩
  | .dT ds, _, _, h => by
    obtain ⟨a, xs, g, e, q, z⟩ := h
    rcases z with ⟨e1, _⟩ | ⟨e1, e3, e4⟩
    · cases e1
    · exact ⟨a, xs, g, e, RepT.fullP ds _ _ q, .inr ⟨e1, e3, e4⟩⟩
theorem RepL.fullP : ∀ (d : List D) (v : List V) (f : FP), RepL H P d .full v f → RepL H P' d .full v f
  | [], _, _, h => h
  | d :: ds, _, _, h => by
    obtain ⟨x, r, f1, f2, e, h1, h2, e2⟩ := h
    exact ⟨x, r, f1, f2, e, RepD.fullP d _ _ h1, RepL.fullP ds _ _ h2, e2⟩
theorem RepK.fullP : ∀ (d : List (Key × D)) (v : List (Key × V)) (f : FP), RepK H P d .full v f → RepK H P' d .full v f
  | [], _, _, h => h
  | (k, d) :: ds, _, _, h => by
    obtain ⟨x, r, f1, f2, e, h1, h2, e2⟩ := h
    exact ⟨x, r, f1, f2, e, RepD.fullP d _ _ h1, RepK.fullP ds _ _ h2, e2⟩
theorem RepT.fullP : ∀ (d : List (List Key × D)) (v : List (List Key × V)) (f : FP), RepT H P d .full v f → RepT H P' d .full v f
  | [], _, _, h => h
  | (k, d) :: ds, _, _, h => by
    obtain ⟨x, r, f1, f2, e, h1, h2, e2⟩ := h
    exact ⟨x, r, f1, f2, e, RepD.fullP d _ _ h1, RepT.fullP ds _ _ h2, e2⟩
end
theorem RepD.closed {d : D} {l : Lv} {v : V} (hc : VI.closed d l = true) (h : RepD H P d l v f) : RepD H P' d l v f := by
  unfold VI.closed at hc
  rcases Bool.or_eq_true_iff.mp hc with hc | hc
  · obtain ⟨e, q⟩ := RepD.imm (P' := P') l hc h
    rw [e]; exact q
  · have : l = .full := by simpa using hc
    subst this
    exact RepD.fullP _ _ _ h
theorem Rels.closed : ∀ {σ : L2.St} {e : Env} {F : List FP}, e.all closedS = true → Rels H P σ e F → Rels H P' σ e F
  | [], [], [], _, _ => trivial
  | [], [], _ :: _, _, h => by simp [Rels] at h
  | [], _ :: _, _, _, h => by simp [Rels] at h
  | _ :: _, [], _, _, h => by simp [Rels] at h
  | _ :: _, _ :: _, [], _, h => by simp [Rels] at h
  | o :: σ, .none :: e, f :: F, c, h => ⟨h.1, Rels.closed (by rw [List.all_cons, Bool.and_eq_true] at c; exact c.2) h.2⟩
  | none :: σ, .own _ _ :: e, f :: F, _, h => by cases h
  | some w :: σ, .own d l :: e, f :: F, c, h => by
    rw [List.all_cons, Bool.and_eq_true] at c
    exact ⟨RepD.closed c.1 h.1, Rels.closed c.2 h.2⟩
end
end VI
namespace VI
open PySem PySem.Spec PyProof.Rows L2
/-- wishes on exceptions, by the class's value -/
def wx (cv : Str → Value) (W : WC) : WX := fun cls _ σ H => ∃ c, cls = cv c ∧ W c σ H
/-- what a def of the table promises -/
def spR (cv : Str → Value) (vs : List V) (H : Hp) (P : Addr → Prop) (T : FP) (r : CR) (Q : VK) (E : XK) : Prop := match r with
  | .ret d l outs => ∀ v H' P' Os f, St0 (vs.map some) outs H' P' Os → RepD H' P' d l v f → Frm f H' P' (tot Os) → Stp H P T H' P' (fa (tot Os) f) → Q v H'
  | .exc c => ∀ H' P', (∀ a, P' a → H' a ≠ none) → Stp H P T H' P' fz → ∀ dd, E (cv c) dd H'
  | .stk => False
def spV (fs : List Fn) (cv : Str → Value) (k : Nat) (f : Str) : Sp := fun vs H Q E => ∃ as P Fs, St0 (vs.map some) (as.map fun p => Slot.own p.1 p.2) H P Fs ∧ spR cv vs H P (tot Fs) (runF fs k f as) Q E
section
variable {fs : List Fn} {cv : Str → Value} {k : Nat} {fn : Str} {W : WC} {σ : L2.St} {Q : VK} {ms : Es}
theorem callX_ok {H : Hp} {e : Env} {P : Addr → Prop} {F : List FP} {f : FP} {xs : List X} {vs : List V} (S : St0 σ e H P F) (rx : RXs σ H P xs vs f) (fr : Frm f H P (tot F))
    (q : PX W σ H P (fa (tot F) f) (callX (csOf fs k) fn xs e) Q) : spV fs cv k fn vs H Q (WE (wx cv W) σ) := by
  unfold callX at q
  split at q
  · exact q.elim
  rename_i as ha
  split at q
  case isFalse => exact q.elim
  rename_i hnd
  obtain ⟨nd, dj⟩ := hnd
  let ms := (csOf fs k).io fn
  have nd' : (inSl ms xs).Nodup := nd
  have dj' : ∀ i ∈ inSl ms xs, i ∉ noSl ms xs := dj
  have ha' : argsOf e ms xs = some as := ha
  let P' : Addr → Prop := fun a => P a ∨ 1 ≤ f a ∨ ∃ i ∈ noSl ms xs, ∃ g, F[i]? = some g ∧ 1 ≤ g a
  have hp : ∀ a, P a → P' a := fun a z => .inl z
  have hno : ∀ i ∈ noSl ms xs, ∀ g, F[i]? = some g → ∀ a, 1 ≤ g a → P' a := fun i hi g hg a z => .inr (.inr ⟨i, hi, g, hg, z⟩)
  have relA := args_rel S hp xs ms vs f as rx (fun a z => .inr (.inl z)) hno ha'
  have tF := fun a => fsOf_tot a xs ms F nd'
  -- what the callee is handed beside
  have sepA : ∀ a, P' a → tot (fsOf F ms xs) a = 0 := fun a z => by
    have h1 := tF a
    rcases z with z | z | ⟨i, hi, g, hg, z⟩
    · have := S.sep a z; omega
    · have := (fr a z).2.1; omega
    · have hni : i ∉ inSl ms xs := fun y => dj' i y hi
      have h2 : g a ≤ tot (zeroF F (inSl ms xs)) a := tot_le a (by rw [zeroF_ne _ _ hni]; exact hg)
      have := S.one a
      omega
  have inPA : ∀ a, P' a → H a ≠ none := fun a z => by
    rcases z with z | z | ⟨i, hi, g, hg, z⟩
    · exact S.inP a z
    · exact (fr a z).2.2.2
    · exact S.inT a (Nat.le_trans z (tot_le a hg))
  have SA : St0 (vs.map some) (as.map fun p => Slot.own p.1 p.2) H P' (fsOf F ms xs) := ⟨relA, fun a => by have := tF a; have := S.one a; omega, sepA, inPA, fun a z => S.inT a (by have := tF a; omega)⟩
  refine ⟨as, P', _, SA, ?_⟩
  have pp : ∀ a, P' a → P a ∨ 1 ≤ fa (tot F) f a := fun a z => by
    rcases z with z | z | ⟨i, hi, g, hg, z⟩
    · exact .inl z
    · exact .inr (by simp; omega)
    · exact .inr (by have := tot_le a hg; simp; omega)
  -- from the callee's end to the caller's
  have fin : ∀ (outs : List Slot) (d : D) (l : Lv) (v : V) (H2 : Hp) (P2 P3 : Addr → Prop) (Os : List FP) (g : FP) (eK : Env) (FK : List FP), St0 (vs.map some) outs H2 P2 Os → Frm g H2 P2 (tot Os) → Stp H P' (tot (fsOf F ms xs)) H2 P2 (fa (tot Os) g) →
      Rels H2 P3 σ eK FK → (∀ a, tot FK a + tot (fsOf F ms xs) a ≤ tot F a) → Rels H2 P3 (vs.map some) outs Os → RepD H2 P3 d l v g → (∀ a, P3 a → P2 a) → (∀ a, P3 a → tot FK a = 0) → (∀ a, P a → P3 a) →
      PX W σ H P (fa (tot F) f) (.ok (.tmp d l) (backTo eK ms xs outs)) Q → Q v H2 := by
    intro outs d l v H2 P2 P3 Os g eK FK S2 fg st relK tK relO rv p32 p3k p13 q
    obtain ⟨relB, tB⟩ := back_ok xs ms vs f outs Os FK eK relK rx relO
    have nK : ∀ a, 1 ≤ tot FK a → tot Os a = 0 ∧ g a = 0 ∧ H a ≠ none := fun a z => by
      have h1 := tK a
      have h2 := S.one a
      have h3 : H a ≠ none := S.inT a (by omega)
      have h4 : ¬ 1 ≤ fa (tot Os) g a := fun y => by
        rcases st.newT a y with y | y
        · omega
        · exact h3 y
      simp at h4
      exact ⟨by omega, by omega, h3⟩
    have oO := S2.one
    have SB : St0 σ (backTo eK ms xs outs) H2 P3 (backF FK ms xs Os) := ⟨relB, fun a => ?_, fun a z => ?_, fun a z => S2.inP a (p32 a z), fun a z => ?_⟩
    · refine q v H2 P3 _ g SB rv (fun a z => ?_) ?_
      · obtain ⟨z1, z2, z3, z4⟩ := fg a z
        have := tB a
        refine ⟨z1, ?_, fun y => z3 (p32 a y), z4⟩
        by_cases y : 1 ≤ tot FK a
        · have := nK a y; omega
        · omega
      · refine ⟨fun a o h z => st.keep a o h (by have := tK a; simp at z; omega), st.tups, fun a z => ?_, p13, fun a z => ?_, st.dom⟩
        · rcases st.newP a (p32 a z) with y | y | y
          · rcases pp a y with y | y
            · exact .inl y
            · exact .inr (.inl y)
          · exact .inr (.inl (by have := tK a; simp; omega))
          · exact .inr (.inr y)
        · simp at z
          have := tB a
          by_cases y : 1 ≤ tot FK a
          · exact .inl (by have := tK a; simp; omega)
          · rcases st.newT a (by simp; omega) with y | y
            · exact .inl (by have := tK a; simp; omega)
            · exact .inr y
    · have := tB a
      by_cases y : 1 ≤ tot FK a
      · have := nK a y; have := tK a; have := S.one a; omega
      · have := oO a; omega
    · have := tB a
      have := p3k a z
      have := S2.sep a (p32 a z)
      omega
    · have := tB a
      by_cases y : 1 ≤ tot FK a
      · exact st.dom a (nK a y).2.2
      · exact S2.inT a (by omega)
  -- all but the inout slots, as they were
  let P3 : (Addr → Prop) → Addr → Prop := fun P2 a => P2 a ∧ (P' a → P a)
  have keepR : ∀ (H2 : Hp) (P2 : Addr → Prop) (T2 : FP), Stp H P' (tot (fsOf F ms xs)) H2 P2 T2 → Rels H2 (P3 P2) σ (killAll e (inSl ms xs)) (zeroF F (inSl ms xs)) := fun H2 P2 T2 st =>
    Rels.car (P := P) (H := H) ⟨fun a o z h => st.keep a o h (by have := tF a; have := S.one a; omega), fun a o z h => st.keep a o h (by have := tF a; have := S.sep a z; omega), st.tups, fun a z => ⟨st.oldP a (hp a z), fun _ => z⟩⟩ (killAll_rel _ _ _ S.rel)
  have p3k0 : ∀ (P2 : Addr → Prop) (H2 : Hp) (T2 : FP), Stp H P' (tot (fsOf F ms xs)) H2 P2 T2 → ∀ a, P3 P2 a → tot (zeroF F (inSl ms xs)) a = 0 := fun P2 H2 T2 st a z => by
    refine Nat.eq_zero_of_not_pos fun y => ?_
    have h1 := tF a
    have h2 := S.one a
    rcases st.newP a z.1 with x | x | x
    · have := S.sep a (z.2 x); omega
    · omega
    · exact S.inT a (by omega) x
  -- the callee's answers
  cases hr : runF fs k fn as with
  | stk =>
    have hr' : (csOf fs k).run fn as = .stk := hr
    rw [hr'] at q
    exact q
  | exc c =>
    have hr' : (csOf fs k).run fn as = .exc c := hr
    rw [hr'] at q
    intro H2 P2 inP st dd
    refine ⟨c, rfl, ?_⟩
    replace q : PX W σ H P (fa (tot F) f) (.exc c (killAll e (inSl ms xs))) Q := q
    refine q H2 (P3 P2) (zeroF F (inSl ms xs)) ⟨keepR H2 P2 _ st, fun a => by have := tF a; have := S.one a; omega, p3k0 P2 H2 _ st, fun a z => inP a z.1, fun a z => st.dom a (S.inT a (by have := tF a; omega))⟩ ?_
    · refine ⟨fun a o h z => st.keep a o h (by have := tF a; simp at z; omega), st.tups, fun a z => ?_, fun a z => ⟨st.oldP a (hp a z), fun _ => z⟩, fun a z => .inl (by have := tF a; simp; omega), st.dom⟩
      rcases st.newP a z.1 with y | y | y
      · exact .inl (z.2 y)
      · exact .inr (.inl (by have := tF a; simp; omega))
      · exact .inr (.inr y)
  | ret d l outs =>
    have hr' : (csOf fs k).run fn as = .ret d l outs := hr
    rw [hr'] at q
    intro v H2 P2 Os g S2 rv fg st
    replace q : PX W σ H P (fa (tot F) f) (if closed d l && outs.all closedS then .ok (.tmp d l) (backTo (killAll e (inSl ms xs)) ms xs outs)
        else .ok (.tmp d l) (backTo (killAll (shareAll e (noSl ms xs)) (inSl ms xs)) ms xs outs)) Q := q
    split at q
    · rename_i hc
      obtain ⟨c1, c2⟩ := Bool.and_eq_true_iff.mp hc
      exact fin outs d l v H2 P2 (P3 P2) Os g _ _ S2 fg st (keepR H2 P2 _ st) tF (Rels.closed c2 S2.rel) (RepD.closed c1 rv) (fun a z => z.1) (p3k0 P2 H2 _ st) (fun a z => ⟨st.oldP a (hp a z), fun _ => z⟩) q
    · have rel1 : Rels H P' σ (shareAll e (noSl ms xs)) (zeroF F (noSl ms xs)) := shareAll_rel hp _ _ _ (S.rel.car ⟨fun _ _ _ h => h, fun _ _ _ h => h, fun _ _ h => h, hp⟩) hno
      have rel2 := killAll_rel (inSl ms xs) _ _ rel1
      have same : fsOf (zeroF F (noSl ms xs)) ms xs = fsOf F ms xs := fsOf_same xs ms fun i hi => zeroF_ne _ _ (dj' i hi)
      have tK : ∀ a, tot (zeroF (zeroF F (noSl ms xs)) (inSl ms xs)) a + tot (fsOf F ms xs) a ≤ tot F a := fun a => by
        have h1 := fsOf_tot a xs ms (zeroF F (noSl ms xs)) nd'
        rw [same] at h1
        have h2 := zeroF_le a (noSl ms xs) F
        omega
      refine fin outs d l v H2 P2 P2 Os g _ _ S2 fg st (rel2.car ⟨fun a o z h => st.keep a o h (by have := tK a; have := S.one a; omega), fun a o z h => st.keep a o h (sepA a z), st.tups, st.oldP⟩) tK S2.rel rv (fun _ z => z) (fun a z => ?_) (fun a z => st.oldP a (hp a z)) q
      refine Nat.eq_zero_of_not_pos fun y => ?_
      have h1 := tK a
      have h2 := S.one a
      have h3 := zeroF_le a (inSl ms xs) (zeroF F (noSl ms xs))
      rcases st.newP a z with x | x | x
      · rcases x with x | x | ⟨i, hi, g', hg, x⟩
        · have := S.sep a x; omega
        · have := (fr a x).2.1; omega
        · have := zeroF_get a (noSl ms xs) F hi hg
          omega
      · omega
      · exact S.inT a (by omega) x
/-! temporaries that the callee changes -/
theorem Rels.join {H : Hp} {P : Addr → Prop} {τ : L2.St} {t : Env} {G : List FP} (h2 : Rels H P τ t G) : ∀ {σ : L2.St} {e : Env} {F : List FP}, Rels H P σ e F → Rels H P (σ ++ τ) (e ++ t) (F ++ G)
  | [], [], [], _ => h2
  | _ :: _, .none :: _, _ :: _, h => ⟨h.1, Rels.join h2 h.2⟩
  | some _ :: _, .own _ _ :: _, _ :: _, h => ⟨h.1, Rels.join h2 h.2⟩
  | none :: _, .own _ _ :: _, _ :: _, h => h.elim
  | [], _ :: _, _, h => by simp [Rels] at h
  | [], [], _ :: _, h => by simp [Rels] at h
  | _ :: _, [], _, h => by simp [Rels] at h
  | _ :: _, _ :: _, [], h => by simp [Rels] at h
theorem Rels.left {H : Hp} {P : Addr → Prop} {τ : L2.St} : ∀ {σ : L2.St} {e : Env} {F : List FP}, Rels H P (σ ++ τ) e F → Rels H P σ (e.take σ.length) (F.take σ.length)
  | [], e, F, h => by simp [Rels]
  | _ :: _, .none :: _, _ :: _, h => ⟨h.1, Rels.left h.2⟩
  | some _ :: _, .own _ _ :: _, _ :: _, h => ⟨h.1, Rels.left h.2⟩
  | none :: _, .own _ _ :: _, _ :: _, h => h.elim
  | _ :: _, [], _, h => by simp [Rels] at h
  | _ :: _, _ :: _, [], h => by simp [Rels] at h
theorem tot_app (F G : List FP) : tot (F ++ G) = fa (tot F) (tot G) := by
  induction F with
  | nil => exact (fz_a _).symm
  | cons f F ih => show fa f (tot (F ++ G)) = _; rw [ih]; exact (fa_assoc _ _ _).symm
theorem tot_take (a : Addr) : ∀ (n : Nat) (F : List FP), tot (F.take n) a ≤ tot F a
  | 0, F => Nat.zero_le _
  | n + 1, [] => Nat.le_refl _
  | n + 1, f :: F => Nat.add_le_add_left (tot_take a n F) _
theorem spill_rel {H : Hp} {P : Addr → Prop} : ∀ (xs : List VI.X) (ms : List Bool) (vs : List V) (f : FP) (σ0 : L2.St), (∀ (i : Nat) (v : Option V), σ[i]? = some v → σ0[i]? = some v) → RXs σ H P xs vs f →
    ∃ τ G f', Rels H P τ (spill ms xs σ0.length).2 G ∧ RXs (σ0 ++ τ) H P (spill ms xs σ0.length).1 vs f' ∧ f = fa f' (tot G)
  | [], ms, vs, f, σ0, _, rx => ⟨[], [], fz, trivial, ⟨rx.1, rfl⟩, by rw [rx.2]; rfl⟩
  | .tmp d l :: xs, ms, vs, f, σ0, hs, rx => by
    obtain ⟨v, r, f1, f2, rfl, rx1, rx2, rfl⟩ := rx
    by_cases hm : ms.headD false = true
    · obtain ⟨τ, G, f', h1, h2, h3⟩ := spill_rel xs ms.tail r f2 (σ0 ++ [some v]) (fun i w h => by
        have := hs i w h
        rw [List.getElem?_append_left (List.getElem?_eq_some_iff.mp this).1]; exact this) rx2
      have e : spill ms (.tmp d l :: xs) σ0.length = (.ali σ0.length :: (spill ms.tail xs (σ0.length + 1)).1, .own d l :: (spill ms.tail xs (σ0.length + 1)).2) := by rw [spill, if_pos hm]
      have el : (σ0 ++ [some v]).length = σ0.length + 1 := by simp
      rw [el] at h1 h2
      rw [e]
      refine ⟨some v :: τ, f1 :: G, f', ⟨rx1, h1⟩, ⟨v, r, fz, f', rfl, ⟨by simp, rfl⟩, ?_, (fz_a _).symm⟩, ?_⟩
      · simpa using h2
      · show fa f1 f2 = fa f' (fa f1 (tot G))
        rw [h3, ← fa_assoc, ← fa_assoc, fa_comm f1 f']
    · obtain ⟨τ, G, f', h1, h2, h3⟩ := spill_rel xs ms.tail r f2 σ0 hs rx2
      have e : spill ms (.tmp d l :: xs) σ0.length = (.tmp d l :: (spill ms.tail xs σ0.length).1, (spill ms.tail xs σ0.length).2) := by rw [spill, if_neg hm]
      rw [e]
      exact ⟨τ, G, fa f1 f', h1, ⟨v, r, f1, f', rfl, rx1, h2, rfl⟩, by rw [h3, fa_assoc]⟩
  | .ali i :: xs, ms, vs, f, σ0, hs, rx => by
    obtain ⟨v, r, f1, f2, rfl, rx1, rx2, rfl⟩ := rx
    obtain ⟨τ, G, f', h1, h2, h3⟩ := spill_rel xs ms.tail r f2 σ0 hs rx2
    refine ⟨τ, G, fa f1 f', h1, ⟨v, r, f1, f', rfl, ⟨?_, rx1.2⟩, h2, rfl⟩, by rw [h3, fa_assoc]⟩
    have := hs i _ rx1.1
    rw [List.getElem?_append_left (List.getElem?_eq_some_iff.mp this).1]; exact this
theorem callX_tmp {cs : CS} {xs : List VI.X} {e e1 : Env} {x : VI.X} (h : callX cs fn xs e = .ok x e1) : ∃ d l, x = .tmp d l := by
  unfold callX at h
  split at h
  · cases h
  · split at h
    · split at h
      · split at h <;> (cases h; exact ⟨_, _, rfl⟩)
      · cases h
      · cases h
    · cases h
theorem St0.left {H : Hp} {P : Addr → Prop} {τ : L2.St} {e : Env} {F : List FP} (S : St0 (σ ++ τ) e H P F) : St0 σ (e.take σ.length) H P (F.take σ.length) :=
  ⟨S.rel.left, fun a => Nat.le_trans (tot_take a _ _) (S.one a), fun a z => Nat.eq_zero_of_le_zero (by rw [← S.sep a z]; exact tot_take a _ _), S.inP, fun a z => S.inT a (Nat.le_trans z (tot_take a _ _))⟩
theorem callY_ok {H : Hp} {e : Env} {P : Addr → Prop} {F : List FP} {f : FP} {xs : List VI.X} {vs : List V} (S : St0 σ e H P F) (rx : RXs σ H P xs vs f) (fr : Frm f H P (tot F))
    (q : PX W σ H P (fa (tot F) f) (callY (csOf fs k) fn xs e) Q) : spV fs cv k fn vs H Q (WE (wx cv W) σ) := by
  unfold callY at q
  split at q
  · have hl : e.length = σ.length := S.rel.len.1.symm
    rw [hl] at q
    obtain ⟨τ, G, f', h1, h2, h3⟩ := spill_rel xs ((csOf fs k).io fn) vs f σ (fun _ _ h => h) rx
    subst h3
    have tt : ∀ a, tot (F ++ G) a = tot F a + tot G a := fun a => by rw [tot_app]; rfl
    have Tt : fa (tot F) (fa f' (tot G)) = fa (tot (F ++ G)) f' := by rw [tot_app, fa_comm f', fa_assoc]
    have own : ∀ a, 1 ≤ f' a + tot G a → f' a + tot G a = 1 ∧ tot F a = 0 ∧ ¬ P a ∧ H a ≠ none := fr
    have S' : St0 (σ ++ τ) (e ++ (spill ((csOf fs k).io fn) xs σ.length).2) H P (F ++ G) := by
      refine ⟨Rels.join h1 S.rel, fun a => ?_, fun a z => ?_, S.inP, fun a z => ?_⟩
      · rw [tt]
        have := S.one a
        by_cases y : 1 ≤ f' a + tot G a
        · have := own a y; omega
        · omega
      · rw [tt]
        have := S.sep a z
        by_cases y : 1 ≤ f' a + tot G a
        · exact absurd z (own a y).2.2.1
        · omega
      · rw [tt] at z
        by_cases y : 1 ≤ f' a + tot G a
        · exact (own a y).2.2.2
        · exact S.inT a (by omega)
    have fr' : Frm f' H P (tot (F ++ G)) := fun a z => by
      obtain ⟨y1, y2, y3, y4⟩ := own a (by omega)
      exact ⟨by omega, by rw [tt]; omega, y3, y4⟩
    let W' : WC := fun c s H => W c (s.take σ.length) H
    have ew : WE (wx cv W') (σ ++ τ) = WE (wx cv W) σ := by
      show WE (fun cls _ s H => ∃ c, cls = cv c ∧ W c (s.take σ.length) H) (σ ++ τ) = _
      unfold WE wx
      simp
    rw [← ew]
    refine callX_ok S' h2 fr' ?_
    rw [← Tt]
    revert q
    cases hc : callX (csOf fs k) fn (spill ((csOf fs k).io fn) xs σ.length).1 (e ++ (spill ((csOf fs k).io fn) xs σ.length).2) with
    | stk => exact fun q => q
    | exc c e1 =>
      intro q H2 P2 F2 S2 st
      show W c ((σ ++ τ).take σ.length) H2
      rw [List.take_left]
      exact q H2 P2 _ S2.left (st.mono (fun _ => Nat.le_refl _) fun a => tot_take a _ _)
    | ok x e1 =>
      obtain ⟨d, l, rfl⟩ := callX_tmp hc
      intro q v H2 P2 F2 f2 S2 r2 fr2 st
      exact q v H2 P2 _ f2 S2.left r2 (fun a z => by
        obtain ⟨y1, y2, y3, y4⟩ := fr2 a z
        exact ⟨y1, Nat.eq_zero_of_le_zero (by rw [← y2]; exact tot_take a _ _), y3, y4⟩) (st.mono (fun _ => Nat.le_refl _) fun a => by have := tot_take a σ.length F2; simp; omega)
  · exact callX_ok S rx fr q
theorem call_read {H : Hp} (h : tI (csOf fs k) W (.call fn ms) σ H Q) : tCallS (spV fs cv k fn) (WE (wx cv W)) (tAs (csOf fs k) W ms) σ H Q := by
  obtain ⟨e, P, F, S, q⟩ := h
  rw [evalE] at q
  refine ⟨e, P, F, S, ?_⟩
  cases ea : evalEs (csOf fs k) ms e with
  | stk => rw [ea] at q; exact q
  | exc c e1 => rw [ea] at q; exact q
  | ok xs e1 =>
    rw [ea] at q
    intro vs H1 P1 F1 f S1 rx fr st
    exact callY_ok S1 rx fr (PX.from st q)
end
section
variable {X : Cx} {fs : List Fn} {cv : Str → Value} {k : Nat} {W : WC} {ms : Es} {e : Expr} {es : List Expr} {f : Addr} {fd : FuncData} {ps : List Str} {x : Str} {p pos : Pos}
theorem snd_call (F : FnOk X.prog X.w X.K X.mg X.base (L2.CX X.prog X.w) k f fd ps (spV fs cv k x)) (hr : Room k X.A) (hg : Gl X x) (hm : X.mg x = some (.ref f)) (hk : PySem.W.keepIn X.K (.ref f) = true) (hb : Binds X.K fd ps []) (tk : Takes X (wx cv W))
    (ha : SndA X (csOf fs k) W ms (e :: es)) (hdb : (x == ("__debug__" : Str)) = false) : Snd X (csOf fs k) W (.call x ms) (.Call (.Name x p) (e :: es) [] pos) :=
  .plain rfl rfl (pe_imp (pe_callS (E := WE (wx cv W)) F hr hg hm hk hb (fun σ => passAt tk σ) ha.pa hdb (plX_star (ha.pl e List.mem_cons_self) _ _) (plX_any (fun y hy => ha.pl y (List.mem_cons_of_mem _ hy)) _ _)) fun σ H Q h => call_read h)
/-- a call without arguments, of a def that raises nothing -/
theorem snd_call0 (F : FnOk X.prog X.w X.K X.mg X.base (L2.CX X.prog X.w) k f fd ps (spV fs cv k x)) (hr : Room k X.A) (hg : Gl X x) (hm : X.mg x = some (.ref f)) (hk : PySem.W.keepIn X.K (.ref f) = true) (hb : Binds X.K fd ps []) (hne : ∀ c, runF fs k x [] ≠ .exc c)
    (hdb : (x == ("__debug__" : Str)) = false) : Snd X (csOf fs k) W (.call x .nil) (.Call (.Name x p) [] [] pos) :=
  .plain rfl rfl (pe_imp (pe_call0 (dvs := []) (E := fun _ _ _ => False) F hr hg hm hk hb .nil (fun pins σ H s e s' I c => by
      obtain ⟨_, _, _, _, _, _, _, _, _, _, _, _, z⟩ := c
      exact z.elim) hdb) fun σ H Q h => by
    obtain ⟨e, P0, F0, S0, q0⟩ := call_read (cv := cv) h
    rw [evalEs] at q0
    obtain ⟨as, P, Fs, S, q⟩ := q0 [] H P0 F0 fz S0 ⟨rfl, rfl⟩ Frm.z (by rw [fa_z]; exact .refl _ _ _)
    refine ⟨as, P, Fs, S, ?_⟩
    have ha : as = [] := by
      cases as with
      | nil => rfl
      | cons a r => have := S.rel.len.1; simp at this
    subst ha
    cases hr : runF fs k x [] with
    | ret d l outs => rw [hr] at q; exact q
    | exc c => exact (hne c hr).elim
    | stk => rw [hr] at q; exact q)
end
end VI
namespace VI
open PySem PySem.Spec PyProof.Rows L2
/-! ### statements -/
/-- slots but those of A are as they were -/
def Kp (A : List Nat) (σ σ' : L2.St) : Prop := ∀ j, j ∉ A → σ'[j]? = σ[j]?
theorem Kp.refl (A : List Nat) (σ : L2.St) : Kp A σ σ := fun _ _ => rfl
theorem Kp.trans {A : List Nat} {σ σ1 σ2 : L2.St} (a : Kp A σ σ1) (b : Kp A σ1 σ2) : Kp A σ σ2 := fun j h => (b j h).trans (a j h)
theorem Kp.mono {A B : List Nat} {σ σ' : L2.St} (a : Kp A σ σ') (h : ∀ j ∈ A, j ∈ B) : Kp B σ σ' := fun j hj => a j fun z => hj (h j z)
def PF (W : WC) (Z : Ends) (A : List Nat) (σ : L2.St) (H : Hp) (P : Addr → Prop) (T : FP) (r : Fl) : Prop := match r with
  | .nx e' => ∀ σ' H' P' F', Kp A σ σ' → St0 σ' e' H' P' F' → Stp H P T H' P' (tot F') → Z.nx σ' H'
  | .brk e' => ∀ σ' H' P' F', Kp A σ σ' → St0 σ' e' H' P' F' → Stp H P T H' P' (tot F') → Z.bk σ' H'
  | .ret d l e' => ∀ σ' v H' P' F' f, Kp A σ σ' → St0 σ' e' H' P' F' → RepD H' P' d l v f → Frm f H' P' (tot F') → Stp H P T H' P' (fa (tot F') f) → Z.rt v H'
  | .exc c e' => ∀ σ' H' P' F', Kp A σ σ' → St0 σ' e' H' P' F' → Stp H P T H' P' (tot F') → W c σ' H'
  | .stk => False
def tS (cs : CS) (W : WC) (A : List Nat) (m : S) : TS := fun Z σ H => ∃ e P F, St0 σ e H P F ∧ PF W Z A σ H P (tot F) (exec cs m e)
def tSs (cs : CS) (W : WC) (A : List Nat) (m : Ss) : TS := fun Z σ H => ∃ e P F, St0 σ e H P F ∧ PF W Z A σ H P (tot F) (execs cs m e)
section
variable {cs : CS} {W : WC} {Z : Ends} {A B : List Nat} {σ : L2.St} {H : Hp} {m a : E} {K : PySem.W.Frag}
theorem PF.from {σ1 : L2.St} {H1 : Hp} {P P1 : Addr → Prop} {T T1 : FP} {r : Fl} (k : Kp A σ σ1) (s : Stp H P T H1 P1 T1) (h : PF W Z A σ H P T r) : PF W Z A σ1 H1 P1 T1 r := by
  cases r with
  | nx e' => exact fun σ' H' P' F' k' S st => h σ' H' P' F' (k.trans k') S (s.trans st)
  | brk e' => exact fun σ' H' P' F' k' S st => h σ' H' P' F' (k.trans k') S (s.trans st)
  | ret d l e' => exact fun σ' v H' P' F' f k' S r fr st => h σ' v H' P' F' f (k.trans k') S r fr (s.trans st)
  | exc c e' => exact fun σ' H' P' F' k' S st => h σ' H' P' F' (k.trans k') S (s.trans st)
  | stk => exact h
theorem PF.sub {P : Addr → Prop} {T : FP} {r : Fl} (hA : ∀ j ∈ A, j ∈ B) (h : PF W Z B σ H P T r) : PF W Z A σ H P T r := by
  cases r with
  | nx e' => exact fun σ' H' P' F' k S st => h σ' H' P' F' (k.mono hA) S st
  | brk e' => exact fun σ' H' P' F' k S st => h σ' H' P' F' (k.mono hA) S st
  | ret d l e' => exact fun σ' v H' P' F' f k S r fr st => h σ' v H' P' F' f (k.mono hA) S r fr st
  | exc c e' => exact fun σ' H' P' F' k S st => h σ' H' P' F' (k.mono hA) S st
  | stk => exact h
/-- a value first -/
theorem PF.x {P : Addr → Prop} {F : List FP} {r : R X} {f : X → Env → Fl} (h : PF W Z A σ H P (tot F) (r.fl f)) :
    PX W σ H P (tot F) r fun v H' => ∃ x e' P' F' g, St0 σ e' H' P' F' ∧ RX σ H' P' x v g ∧ Frm g H' P' (tot F') ∧ PF W Z A σ H' P' (fa (tot F') g) (f x e') := by
  cases r with
  | ok x e' => exact fun v H' P' F' g S rx fr st => ⟨x, e', P', F', g, S, rx, fr, PF.from (Kp.refl _ _) st h⟩
  | exc c e' => exact fun H' P' F' S st => h σ H' P' F' (Kp.refl _ _) S st
  | stk => exact h
theorem PF.b {α : Type} {P : Addr → Prop} {F : List FP} {r : R α} {f : α → Env → Fl} (h : PF W Z A σ H P (tot F) (r.fl f)) :
    PB W σ H P (tot F) r fun x H' => ∃ e' P' F', St0 σ e' H' P' F' ∧ PF W Z A σ H' P' (tot F') (f x e') := by
  cases r with
  | ok x e' => exact fun H' P' F' S st => ⟨e', P', F', S, PF.from (Kp.refl _ _) st h⟩
  | exc c e' => exact fun H' P' F' S st => h σ H' P' F' (Kp.refl _ _) S st
  | stk => exact h
theorem PF.use {P : Addr → Prop} {T : FP} {x : X} {e : Env} {f : D × Lv → Env → Fl} (h : PF W Z A σ H P T ((use e x).fl f)) : ∃ d l e1, use e x = .ok (d, l) e1 ∧ PF W Z A σ H P T (f (d, l) e1) := by
  rcases use_stk (e := e) (x := x) with ⟨p, e1, hu⟩ | hu
  · rw [hu] at h
    exact ⟨p.1, p.2, e1, hu, h⟩
  · rw [hu] at h; exact h.elim
theorem PF.nxO {P : Addr → Prop} {T : FP} {o : Option Env} (h : PF W Z A σ H P T (VI.nxO o)) : ∃ e', o = some e' ∧ PF W Z A σ H P T (.nx e') := by
  cases o with
  | none => exact h.elim
  | some e' => exact ⟨e', rfl, h⟩
/-- a value stored by a target -/
theorem asg_end {g : G} {P : Addr → Prop} {F : List FP} {x : X} {e : Env} {v : V} {f T : FP} (S : St0 σ e H P F) (rx : RX σ H P x v f) (fr : Frm f H P (tot F)) (hA : ∀ j ∈ g.slots, j ∈ A) (hT : ∀ a, fa (tot F) f a ≤ T a)
    (q : PF W Z A σ H P T ((use e x).fl fun p e2 => nxO (bindG g p.1 p.2 e2))) : tGr K g v σ H Z.nx := by
  obtain ⟨d, l, e1, hu, q⟩ := PF.use q
  obtain ⟨e2, hb, q⟩ := PF.nxO q
  obtain ⟨P1, F1, f1, S1, r1, fr1, st1⟩ := use_ok S rx fr hu
  have st : Stp H P T H P1 (fa (tot F1) f1) := st1.mono hT fun a => Nat.le_refl _
  have mk : ∀ σ' F', St0 σ' e2 H P1 F' → (∀ a, tot F' a ≤ tot F1 a + f1 a) → (∀ j, j ∉ g.slots → σ'[j]? = σ[j]?) → Z.nx σ' H := fun σ' F' S' t k =>
    q σ' H P1 F' (fun j hj => k j fun z => hj (hA j z)) S' (st.mono (fun _ => Nat.le_refl _) fun a => by simpa using t a)
  exact bind_ok g S1 r1 fr1 hb mk
theorem asg_read {g : G} (hA : ∀ j ∈ g.slots, j ∈ A) (h : tS cs W A (.asg g a) Z σ H) : tAsg (tI cs W a) (tGr K g) Z σ H := by
  obtain ⟨e, P, F, S, q⟩ := h
  rw [exec] at q
  exact ⟨e, P, F, S, (PF.x q).mono fun v H1 ⟨x, e1, P1, F1, f, S1, rx, fr, q1⟩ => asg_end S1 rx fr hA (fun a => Nat.le_refl _) q1⟩
theorem ret_read (h : tS cs W A (.ret a) Z σ H) : tRet (tI cs W a) Z σ H := by
  obtain ⟨e, P, F, S, q⟩ := h
  rw [exec] at q
  refine ⟨e, P, F, S, (PF.x q).mono fun v H1 ⟨x, e1, P1, F1, f, S1, rx, fr, q1⟩ => ?_⟩
  obtain ⟨d, l, e2, hu, q2⟩ := PF.use q1
  obtain ⟨P2, F2, f2, S2, r2, fr2, st2⟩ := use_ok S1 rx fr hu
  exact q2 σ v H1 P2 F2 f2 (Kp.refl _ _) S2 r2 fr2 st2
theorem retN_read (h : tS cs W A .rtn Z σ H) : tRetN Z σ H := by
  obtain ⟨e, P, F, S, q⟩ := h
  rw [exec] at q
  exact q σ .non H P F fz (Kp.refl _ _) S ⟨rfl, rfl⟩ Frm.z (by rw [fa_z]; exact .refl _ _ _)
theorem ex_read (h : tS cs W A (.ex a) Z σ H) : tDrop (tI cs W a) Z σ H := by
  obtain ⟨e, P, F, S, q⟩ := h
  rw [exec] at q
  exact ⟨e, P, F, S, (PF.x q).mono fun v H1 ⟨x, e1, P1, F1, f, S1, rx, fr, q1⟩ => q1 σ H1 P1 F1 (Kp.refl _ _) S1 ((Stp.refl _ _ _).mono (fun _ => Nat.le_refl _) fun b => by simp)⟩
theorem ite_read {c : E} {s1 s2 : Ss} (h : tS cs W A (.ite c s1 s2) Z σ H) : tIfS (tT cs W c) (tSs cs W A s1) (tSs cs W A s2) Z σ H := by
  obtain ⟨e, P, F, S, q⟩ := h
  rw [exec] at q
  refine ⟨e, P, F, S, (PF.b q).mono fun k H1 ⟨e1, P1, F1, S1, q1⟩ => ?_⟩
  cases k with
  | true => exact ⟨e1, P1, F1, S1, q1⟩
  | false => exact ⟨e1, P1, F1, S1, q1⟩
theorem pass_read (h : tS cs W A .pass Z σ H) : tNext Z σ H := by
  obtain ⟨e, P, F, S, q⟩ := h
  rw [exec] at q
  exact q σ H P F (Kp.refl _ _) S (.refl _ _ _)
theorem brk_read (h : tS cs W A .brk Z σ H) : tBreak Z σ H := by
  obtain ⟨e, P, F, S, q⟩ := h
  rw [exec] at q
  exact q σ H P F (Kp.refl _ _) S (.refl _ _ _)
theorem nil_read (h : tSs cs W A .nil Z σ H) : tNext Z σ H := by
  obtain ⟨e, P, F, S, q⟩ := h
  rw [execs] at q
  exact q σ H P F (Kp.refl _ _) S (.refl _ _ _)
/-- a flow, then what comes behind it -/
theorem PF.seq {P : Addr → Prop} {T : FP} {r : Fl} {f : Env → Fl} (h : PF W Z A σ H P T (r.seq f)) :
    PF W { Z with nx := fun σ' H' => ∃ e' P' F', St0 σ' e' H' P' F' ∧ PF W Z A σ' H' P' (tot F') (f e') } A σ H P T r := by
  cases r with
  | nx e' => exact fun σ' H' P' F' k S st => ⟨e', P', F', S, PF.from k st h⟩
  | brk e' => exact h
  | ret d l e' => exact h
  | exc c e' => exact h
  | stk => exact h
theorem cons_read {s : S} {r : Ss} (h : tSs cs W A (.cons s r) Z σ H) : tSeq (tS cs W A s) (tSs cs W A r) Z σ H := by
  obtain ⟨e, P, F, S, q⟩ := h
  rw [execs] at q
  exact ⟨e, P, F, S, PF.seq q⟩
end
end VI
namespace VI
open PySem PySem.Spec PyProof.Rows L2
section
variable {σ : L2.St} {e : Env} {H : Hp} {P : Addr → Prop} {F : List FP} {f g : FP} {i : Nat} {ds es : List D} {lv k : Lv} {xs ys : List V}
theorem addLv_full {lv k : Lv} (h : (addLv lv k).pred = .full) : lv = .full ∧ k = .full := by
  unfold addLv at h
  split at h
  · assumption
  · cases h
theorem addLv_ne (lv k : Lv) : addLv lv k ≠ .sh := by
  unfold addLv
  split <;> simp
/-- ahead of a store: the slot's list and the new items at one level -/
theorem prepL (S : St0 σ e H P F) (hg : gt e i = .own (.lst ds) lv) (hl : lv ≠ .sh) (q : RepL H P es k ys f) (fr : Frm f H P (tot F)) :
    ∃ a xs P' F' g' f', σ[i]? = some (some (.ref a)) ∧ H a = some (.lst xs) ∧ xs.length = ds.length ∧ i < e.length ∧ St0 σ (e.set i (.own (.lst ds) (addLv lv k))) H P' F' ∧ F'[i]? = some (fa (fo a) g') ∧
      RepL H P' ds (addLv lv k).pred xs g' ∧ RepL H P' es (addLv lv k).pred ys f' ∧ Frm f' H P' (tot F') ∧ Stp H P (fa (tot F) f) H P' (fa (tot F') f') := by
  obtain ⟨a, xs, g, h1, h2, h3, h4, h5, h6, h7⟩ := S.lst hg hl
  by_cases hf : lv = .full ∧ k = .full
  · obtain ⟨rfl, rfl⟩ := hf
    have e1 : e.set i (.own (.lst ds) (addLv .full .full)) = e := set_get_self (gt_own hg)
    refine ⟨a, xs, P, F, g, f, h1, h4, h5.len, h3, by rw [e1]; exact S, h2, h5, q, fr, .refl _ _ _⟩
  · have e1 : addLv lv k = .top := by unfold addLv; rw [if_neg hf]
    rw [e1]
    have zz : RepD H (pAdd P g) (.lst ds) .top (.ref a) (fo a) := ⟨a, xs, fz, rfl, RepL.shr (fun _ h => .inl h) (fun _ h => .inr h) h5, .inr ⟨by simp, h4, (fa_z _).symm⟩⟩
    obtain ⟨S1, st1, ts⟩ := S.freeze h1 h2 g (fun b => by simp; omega) zz h3
    -- the new items shared, too
    have frs := (st1.frm fr)
    have q1 : RepL H (pAdd P g) es k ys f := q.car ⟨fun _ _ _ h => h, fun _ _ _ h => h, fun _ _ h => h, fun _ h => .inl h⟩
    obtain ⟨P2, f2, S2, q2, fr2, st2⟩ := RepL.lower' S1 q1 frs (l := .sh) (by simp) (by simp)
    have ez : f2 = fz := RepL.sh_z q2
    subst ez
    have hF : (F.set i (fo a))[i]? = some (fa (fo a) fz) := by
      rw [fa_z]
      exact List.getElem?_set_self (List.getElem?_eq_some_iff.mp h2).1
    have zs : RepL H P2 ds .sh xs fz := by
      have := S2.rel.get (i := i) (d := .lst ds) (l := .top) (List.getElem?_set_self h3)
      obtain ⟨v, f', y1, y2, y3⟩ := this
      rw [h1] at y1; cases y1
      obtain ⟨a', xs', g', y4, y5, y6⟩ := y3
      cases y4
      rcases y6 with ⟨y6, _⟩ | ⟨_, y7, y8⟩
      · cases y6
      · rw [h4] at y7; cases y7
        have : g' = fz := RepL.sh_z y5
        rw [this] at y5; exact y5
    exact ⟨a, xs, P2, _, fz, fz, h1, h4, h5.len, h3, S2, hF, zs, q2, Frm.z, (st1.wide f).trans st2⟩
end
section
variable {cs : CS} {W : WC} {Z : Ends} {A B : List Nat} {σ : L2.St} {H : Hp} {m a : E} {K : PySem.W.Frag}
/-- l.extend(b), b a list that is read -/
def rExtR : V → List V → Hp → VK → Prop := fun x vs H Q => ∃ l b xs zs, x = .ref l ∧ vs = [.ref b] ∧ H l = some (.lst xs) ∧ Rd H b (.lst zs) ∧ xs.length + zs.length ≤ sizeLine ∧ Q .non (upd H l (.lst (xs ++ zs)))
theorem mt_extR {X : Cx} : MtM X "list.extend" rExtR := by
  intro pins s σ H x vs v us Q I rx rv h
  obtain ⟨l, b, xs, zs, rfl, rfl, hH, hB, hz, q⟩ := h
  cases rx
  obtain ⟨u, rfl, ru⟩ := rv.one
  cases ru
  obtain ⟨z, its, n, r, e⟩ := I.hok l _ hH
  obtain ⟨z2, its2, n2, r2, e2⟩ := hB.ok I.hok
  have hl := r.length
  have hl2 := r2.length
  have hsz : its.toArray.size + its2.toArray.size ≤ sizeLine := by rw [List.size_toArray, List.size_toArray]; omega
  have hlong : ¬ (!its.toArray.isEmpty && Builtin.List.listTooLong (its.toArray.size + its2.toArray.size)) = true := by
    rw [notLongL hsz, Bool.and_false]
    exact Bool.false_ne_true
  refine call_meets PySem.F.slot_list_extend ⟨_, e, rfl⟩ PySem.F.entry_list_extend (PySem.F.args_list_extend_2 _ _)
    (AutoSeq1.list_extend_list_list_0 l its.toArray n b its2.toArray n2 hlong (by rw [List.size_toArray]; omega) (by omega)) ⟨e, e2, ?_⟩
  refine ⟨.non, _, I.lset (its' := its ++ its2) hH e (by simp) (r.append r2) ?_, rfl, q⟩
  rw [List.length_append]
  omega
theorem kids_exc {e : Env} {x : X} {c : Str} {e' : Env} (q : kids e x = .exc c e') : False := by
  unfold kids at q
  split at q
  · cases q
  · cases q
  · cases q
  · split at q
    · split at q <;> cases q
    · split at q <;> cases q
    · cases q
/-- behind a store -/
theorem mut_nx {e : Env} {P : Addr → Prop} {F : List FP} {f g T : FP} {i : Nat} {p : Addr} {xs ys : List V} {ds : List D} {l l0 : Lv} (S : St0 σ (e.set i (.own (.lst ds) l0)) H P F) (h1 : σ[i]? = some (some (.ref p))) (h2 : H p = some (.lst xs)) (h3 : i < e.length) (h4 : F[i]? = some (fa (fo p) g))
    (fr : Frm f H P (tot F)) {es : List D} {h : FP} (q : RepL H P es l.pred ys h) (hh : ∀ b, h b ≤ g b + f b) (hl : l ≠ .sh) {P0 : Addr → Prop} (st : Stp H P0 T H P (fa (tot F) f)) (r : PF W Z A σ H P0 T (.nx (e.set i (.own (.lst es) l)))) : Z.nx σ (upd H p (.lst ys)) := by
  have one := S.one p
  have le := tot_le p h4
  simp [fo_same] at le
  have hg0 : g p = 0 := by omega
  have hf0 : f p = 0 := Nat.eq_zero_of_not_pos fun z => by have := (fr p z).2.1; omega
  have np : ¬ P p := fun z => by have := S.sep p z; omega
  have hh0 : h p = 0 := by have := hh p; omega
  have qn : RepD (upd H p (.lst ys)) P (.lst es) l (.ref p) (fa (fo p) h) := ⟨p, ys, h, rfl, q.car (car_mut h2 rfl np hh0), .inr ⟨hl, upd_same, rfl⟩⟩
  obtain ⟨S', fr', st'⟩ := S.mut (r := fz) h1 h4 (by rw [List.length_set]; exact h3) h2 rfl fr qn (fun b => by have := hh b; simp; omega)
  rw [List.set_set] at S'
  exact r σ _ P _ (Kp.refl _ _) S' ((st.trans st').mono (fun _ => Nat.le_refl _) fun b => by simp)
/-- a method call by a slot's own list -/
theorem own_list {e : Env} {P : Addr → Prop} {F : List FP} {i : Nat} {ds : List D} {lv : Lv} (S : St0 σ e H P F) (hg : gt e i = .own (.lst ds) lv) : ∃ p, σ[i]? = some (some (.ref p)) ∧ tyV K "list" (.ref p) H := by
  obtain ⟨v, f, h1, h2, h3⟩ := S.rel.get (gt_own hg)
  obtain ⟨a, xs, g, rfl, r1, r2⟩ := rep_lst h3
  exact ⟨a, h1, .inl ⟨rfl, xs, .inl r1⟩⟩
theorem app_read {i : Nat} (h : tS cs W A (.app i a) Z σ H) : tDrop (tBM K "list" rAppend (tVar i) (tCons (tI cs W a) tNil)) Z σ H := by
  obtain ⟨e, P, F, S, q⟩ := h
  rw [exec] at q
  split at q
  · rename_i ds0 lv0 hg0
    obtain ⟨p, hp, ty⟩ := own_list (K := K) S hg0
    refine ⟨_, hp, ty, e, P, F, S, (PF.x q).mono fun v H1 ⟨x, e1, P1, F1, f, S1, rx, fr, q1⟩ => ?_⟩
    obtain ⟨d, l, e2, hu, q2⟩ := PF.use q1
    obtain ⟨P2, F2, f2, S2, r2, fr2, st2⟩ := use_ok S1 rx fr hu
    split at q2
    · rename_i ds lv hg
      split at q2
      · rename_i hz
        obtain ⟨p', xs, P3, F3, g3, f3, h1, h2, h3, h4, S3, h5, h6, h7, fr3, st3⟩ := prepL S2 hg hz.1 (RepL.one r2) fr2
        rw [hp] at h1
        cases h1
        refine ⟨p, xs, v, rfl, rfl, h2, by rw [h3]; exact hz.2, ?_⟩
        exact mut_nx S3 hp h2 h4 h5 fr3 (h6.app h7) (fun b => Nat.le_refl _) (addLv_ne _ _) (st2.trans st3) q2
      · exact q2.elim
    · exact q2.elim
  · exact q.elim
theorem RepL.split {H : Hp} {P : Addr → Prop} : ∀ {ds : List D} {l : Lv} {xs : List V} {f : FP} (n : Nat), RepL H P ds l xs f → ∃ g1 g2, RepL H P (ds.take n) l (xs.take n) g1 ∧ RepL H P (ds.drop n) l (xs.drop n) g2 ∧ f = fa g1 g2
  | [], l, xs, f, n, h => by
    obtain ⟨rfl, rfl⟩ := h
    rw [List.take_nil, List.drop_nil, List.take_nil, List.drop_nil]
    exact ⟨fz, fz, ⟨rfl, rfl⟩, ⟨rfl, rfl⟩, rfl⟩
  | d :: ds, l, xs, f, 0, h => ⟨fz, f, ⟨rfl, rfl⟩, h, (fz_a _).symm⟩
  | d :: ds, l, xs, f, n + 1, h => by
    obtain ⟨v, r, f1, f2, e, h1, h2, e2⟩ := h
    subst e e2
    obtain ⟨g1, g2, z1, z2, z3⟩ := RepL.split n h2
    subst z3
    exact ⟨fa f1 g1, g2, ⟨v, r.take n, f1, g1, rfl, h1, z1, rfl⟩, z2, (fa_assoc _ _ _).symm⟩
theorem ins_read {i : Nat} {b : E} (h : tS cs W A (.ins i b a) Z σ H) : tDrop (tBM K "list" (fun x vs H Q => ∃ (l : Addr) (xs : List V) (i : Int) (y : V), x = .ref l ∧ vs = [.int i, y] ∧ H l = some (.lst xs) ∧ xs.length < sizeLine ∧ 0 ≤ i ∧ i < 2 ^ 63 ∧
    Q .non (upd H l (.lst (xs.take i.toNat ++ [y] ++ xs.drop i.toNat)))) (tVar i) (tCons (tI cs W b) (tCons (tI cs W a) tNil))) Z σ H := by
  obtain ⟨e, P, F, S, q⟩ := h
  rw [exec] at q
  split at q
  · rename_i ds0 lv0 hg0
    obtain ⟨p, hp, ty⟩ := own_list (K := K) S hg0
    refine ⟨_, hp, ty, e, P, F, S, (PF.x q).mono fun w H0 ⟨y, e0, P0, F0, f0, S0, ry, fr0, q0⟩ => ?_⟩
    split at q0
    · rename_i j hy
      obtain ⟨ly, gy, ryy⟩ := deref_ok S0 ry hy
      obtain rfl := rep_int ryy
      have q0' := q0.from (Kp.refl A σ) (H1 := H0) (P1 := P0) (T1 := tot F0) ((Stp.refl H0 P0 _).mono (fun _ => Nat.le_refl _) fun b => by simp)
      refine ⟨e0, P0, F0, S0, (PF.x q0').mono fun v H1 ⟨x, e1, P1, F1, f, S1, rx, fr, q1⟩ => ?_⟩
      obtain ⟨d, l, e2, hu, q2⟩ := PF.use q1
      obtain ⟨P2, F2, f2, S2, r2, fr2, st2⟩ := use_ok S1 rx fr hu
      split at q2
      · rename_i ds lv hg
        split at q2
        · rename_i hz
          obtain ⟨p', xs, P3, F3, g3, f3, h1, h2, h3, h4, S3, h5, h6, h7, fr3, st3⟩ := prepL S2 hg hz.1 (RepL.one r2) fr2
          rw [hp] at h1
          cases h1
          obtain ⟨g1, g2, z1, z2, z3⟩ := h6.split j.toNat
          refine ⟨p, xs, j, v, rfl, rfl, h2, by rw [h3]; exact hz.2.1, hz.2.2.1, hz.2.2.2, ?_⟩
          have qq := (z1.app h7).app z2
          have ee : insAt ds j.toNat d = ds.take j.toNat ++ [d] ++ ds.drop j.toNat := by unfold insAt; simp
          rw [ee] at q2
          exact mut_nx S3 hp h2 h4 h5 fr3 qq (fun b => by rw [z3]; simp; omega) (addLv_ne _ _) (st2.trans st3) q2
        · exact q2.elim
      · exact q2.elim
    · exact q0.elim
  · exact q.elim
theorem ext_read {i : Nat} (h : tS cs W A (.ext i a) Z σ H) : tDrop (tBM K "list" rExtR (tVar i) (tCons (tI cs W a) tNil)) Z σ H := by
  obtain ⟨e, P, F, S, q⟩ := h
  rw [exec] at q
  split at q
  · rename_i ds0 lv0 hg0
    obtain ⟨p, hp, ty⟩ := own_list (K := K) S hg0
    refine ⟨_, hp, ty, e, P, F, S, (PF.x q).mono fun v H1 ⟨x, e1, P1, F1, f, S1, rx, fr, q1⟩ => ?_⟩
    cases hx : deref e1 x with
    | none => rw [hx] at q1; exact q1.elim
    | some dx =>
      rw [hx] at q1
      cases dx with
      | lst es0 =>
        replace q1 : PF W Z A σ H1 P1 (fa (tot F1) f) ((kids e1 x).fl fun p e2 => (match gt e2 i with
          | .own (.lst ds) lv => if lv ≠ Lv.sh ∧ ds.length + p.1.length ≤ sizeLine then .nx (e2.set i (.own (.lst (ds ++ p.1)) (addLv lv p.2))) else .stk
          | _ => .stk)) := q1
        cases hk : kids e1 x with
        | stk => rw [hk] at q1; exact q1.elim
        | exc c e' => exact (kids_exc hk).elim
        | ok pr e2 =>
          obtain ⟨es, k⟩ := pr
          rw [hk] at q1
          obtain ⟨P2, F2, f2, b, ys, S2, rfl, r2, fr2, st2, dd⟩ := kids_ok S1 rx fr hk
          have rb : Rd H1 b (.lst ys) := by
            rcases dd with ⟨_, r⟩ | ⟨z, _⟩
            · exact r
            · rw [hx] at z; cases z
          replace q1 : PF W Z A σ H1 P1 (fa (tot F1) f) (match gt e2 i with
            | .own (.lst ds) lv => if lv ≠ Lv.sh ∧ ds.length + es.length ≤ sizeLine then .nx (e2.set i (.own (.lst (ds ++ es)) (addLv lv k))) else .stk
            | _ => .stk) := q1
          split at q1
          · rename_i ds lv hg
            split at q1
            · rename_i hz
              have hl := r2.len
              obtain ⟨p', xs, P3, F3, g3, f3, h1, h2, h3, h4, S3, h5, h6, h7, fr3, st3⟩ := prepL S2 hg hz.1 r2 fr2
              rw [hp] at h1
              cases h1
              refine ⟨p, b, xs, ys, rfl, rfl, h2, rb, by rw [h3, hl]; exact hz.2, ?_⟩
              exact mut_nx S3 hp h2 h4 h5 fr3 (h6.app h7) (fun b => Nat.le_refl _) (addLv_ne _ _) (st2.trans st3) q1
            · exact q1.elim
          · exact q1.elim
      | _ => exact q1.elim
  · exact q.elim
theorem rem_read {i : Nat} (h : tS cs W A (.rem i a) Z σ H) : tDrop (tBM K "list" rRemI (tVar i) (tCons (tI cs W a) tNil)) Z σ H := by
  obtain ⟨e, P, F, S, q⟩ := h
  rw [exec] at q
  split at q
  · rename_i ds0 lv0 hg0
    obtain ⟨p, hp, ty⟩ := own_list (K := K) S hg0
    refine ⟨_, hp, ty, e, P, F, S, (PF.x q).mono fun v H1 ⟨x, e1, P1, F1, f, S1, rx, fr, q1⟩ => ?_⟩
    split at q1
    · rename_i ds lv j hg hx
      obtain ⟨lx, gx, rxx⟩ := deref_ok S1 rx hx
      obtain rfl := rep_int rxx
      split at q1
      · exact q1.elim
      rename_i hl
      split at q1
      · rename_i ns hn
        split at q1
        · rename_i hj
          obtain ⟨p', xs, g, h1, h2, h3, h4, h5, h6, h7⟩ := S1.lst hg hl
          rw [hp] at h1
          cases h1
          have ex := ints_rep hn h5
          obtain ⟨n, hn1, hn2, hn3⟩ : ∃ n, ns[n]? = some j ∧ (∀ m : Nat, m < n → ns[m]? ≠ some j) ∧ ns.erase j = ns.eraseIdx n := by
            refine ⟨ns.idxOf j, ?_, fun m hm z => ?_, ?_⟩
            · have hlt := List.idxOf_lt_length_iff.mpr hj
              rw [List.getElem?_eq_getElem hlt]
              simp
            · have hlt := (List.getElem?_eq_some_iff.mp z).1
              have h8 := (List.getElem?_eq_some_iff.mp z).2
              have := List.not_of_lt_findIdx (p := (· == j)) (xs := ns) hm
              simp [h8] at this
            · rw [List.erase_eq_eraseIdx_of_idxOf rfl]
          have e1s : e1.set i (.own (.lst ds) lv) = e1 := set_get_self (gt_own hg)
          refine ⟨p, ns, j, n, rfl, rfl, by rw [← ex]; exact h4, hn1, hn2, ?_⟩
          rw [hn3] at q1
          refine mut_nx (ds := ds) (l := lv) (l0 := lv) (e := e1) (by rw [e1s]; exact S1) hp h4 h3 h2 fr (es := (ns.eraseIdx n).map .int) (h := fz) (ints_repL _) (fun b => by simp) hl (.refl _ _ _) q1
        · exact q1.elim
      · exact q1.elim
    · exact q1.elim
  · exact q.elim
theorem rvs_read {i : Nat} (h : tS cs W A (.rvs i) Z σ H) : tDrop (tBM0 K "list" rReverse (tVar i)) Z σ H := by
  obtain ⟨e, P, F, S, q⟩ := h
  rw [exec] at q
  split at q
  · rename_i ds lv hg
    split at q
    · exact q.elim
    rename_i hl
    obtain ⟨p, xs, g, h1, h2, h3, h4, h5, h6, h7⟩ := S.lst hg hl
    have e1s : e.set i (.own (.lst ds) lv) = e := set_get_self (gt_own hg)
    refine ⟨_, h1, .inl ⟨rfl, xs, .inl (.inl h4)⟩, p, xs, rfl, rfl, h4, ?_⟩
    exact mut_nx (ds := ds) (l := lv) (l0 := lv) (e := e) (by rw [e1s]; exact S) h1 h4 h3 h2 (Frm.z (H := H) (P := P)) h5.rev (fun b => by simp) hl (by rw [fa_z]; exact .refl _ _ _) q
  · exact q.elim
theorem clr_read {i : Nat} (h : tS cs W A (.clr i) Z σ H) : tDrop (tBM0 K "list" rClear (tVar i)) Z σ H := by
  obtain ⟨e, P, F, S, q⟩ := h
  rw [exec] at q
  split at q
  · rename_i ds lv hg
    split at q
    · exact q.elim
    rename_i hl
    obtain ⟨p, xs, g, h1, h2, h3, h4, h5, h6, h7⟩ := S.lst hg hl
    have e1s : e.set i (.own (.lst ds) lv) = e := set_get_self (gt_own hg)
    refine ⟨_, h1, .inl ⟨rfl, xs, .inl (.inl h4)⟩, p, xs, rfl, rfl, h4, ?_⟩
    exact mut_nx (ds := ds) (l0 := lv) (l := .full) (e := e) (by rw [e1s]; exact S) h1 h4 h3 h2 (Frm.z (H := H) (P := P)) (es := []) (h := fz) ⟨rfl, rfl⟩ (fun b => by simp) (by simp) (by rw [fa_z]; exact .refl _ _ _) q
  · exact q.elim
end
end VI
namespace VI
open PySem PySem.Spec PyProof.Rows L2
section
variable {σ : L2.St} {e : Env} {H : Hp} {P : Addr → Prop} {F : List FP} {f g : FP} {i : Nat} {kvs : List (Key × D)} {d : D} {lv k : Lv} {v : V}
theorem St0.dct (S : St0 σ e H P F) (h : gt e i = .own (.dK kvs) lv) (hl : lv ≠ .sh) : ∃ a xs g, σ[i]? = some (some (.ref a)) ∧ F[i]? = some (fa (fo a) g) ∧ i < e.length ∧ H a = some (.dK xs) ∧ RepK H P kvs lv.pred xs g ∧ ¬ P a ∧ g a = 0 := by
  obtain ⟨v, f, h1, h2, h3⟩ := S.rel.get (gt_own h)
  obtain ⟨a, xs, g, rfl, q, z⟩ := h3
  rcases z with ⟨z, _⟩ | ⟨_, e3, e4⟩
  · exact absurd z hl
  · subst e4
    have h5 : 1 ≤ tot F a := by have := tot_le a h2; simp [fo_same] at this; omega
    refine ⟨a, xs, g, h1, h2, (List.getElem?_eq_some_iff.mp (gt_own h)).1, e3, q, fun z => ?_, ?_⟩
    · have := S.sep a z; omega
    · have h6 := tot_le a h2
      have h7 := S.one a
      simp [fo_same] at h6
      omega
theorem RepK.len {H : Hp} {P : Addr → Prop} : ∀ {ds : List (Key × D)} {l : Lv} {xs : List (Key × V)} {f : FP}, RepK H P ds l xs f → xs.length = ds.length
  | [], _, _, _, h => by rw [h.1]; rfl
  | (k, d) :: ds, l, _, _, h => by
    obtain ⟨x, r, f1, f2, e, h1, h2, e2⟩ := h
    rw [e, List.length_cons, List.length_cons, RepK.len h2]
theorem RepK.keys {H : Hp} {P : Addr → Prop} : ∀ {ds : List (Key × D)} {l : Lv} {xs : List (Key × V)} {f : FP}, RepK H P ds l xs f → xs.map (·.1) = ds.map (·.1)
  | [], _, _, _, h => by rw [h.1]; rfl
  | (k, d) :: ds, l, _, _, h => by
    obtain ⟨x, r, f1, f2, e, h1, h2, e2⟩ := h
    rw [e, List.map_cons, List.map_cons, RepK.keys h2]
theorem any_keys {α β : Type} {k : Key} {xs : List (Key × α)} {ys : List (Key × β)} (h : xs.map (·.1) = ys.map (·.1)) : (xs.any fun kv => decide (kv.1 = k)) = ys.any fun kv => decide (kv.1 = k) := by
  have e1 : (xs.any fun kv => decide (kv.1 = k)) = (xs.map (·.1)).any fun j => decide (j = k) := by rw [List.any_map]; rfl
  have e2 : (ys.any fun kv => decide (kv.1 = k)) = (ys.map (·.1)).any fun j => decide (j = k) := by rw [List.any_map]; rfl
  rw [e1, e2, h]
theorem map_none {α : Type} {k : Key} {d : α} : ∀ {xs : List (Key × α)}, k ∉ xs.map (·.1) → xs.map (fun kv => if kv.1 = k then (kv.1, d) else kv) = xs
  | [], _ => rfl
  | p :: r, h => by
    rw [List.map_cons, List.mem_cons, not_or] at h
    rw [List.map_cons, if_neg (fun e => h.1 e.symm), map_none h.2]
theorem RepK.mapI {H : Hp} {P : Addr → Prop} {k : Key} {d : D} {v : V} : ∀ {ds : List (Key × D)} {l : Lv} {xs : List (Key × V)} {f : FP}, RepK H P ds l xs f → RepD H P d l v fz →
    ∃ h, RepK H P (ds.map fun kv => if kv.1 = k then (kv.1, d) else kv) l (xs.map fun kv => if kv.1 = k then (kv.1, v) else kv) h ∧ ∀ a, h a ≤ f a
  | [], l, xs, f, h, q => by
    obtain ⟨rfl, rfl⟩ := h
    exact ⟨fz, ⟨rfl, rfl⟩, fun a => Nat.le_refl _⟩
  | (j, c) :: ds, l, xs, f, h, q => by
    obtain ⟨x, r, f1, f2, rfl, h1, h2, rfl⟩ := h
    obtain ⟨h, z1, z2⟩ := RepK.mapI (k := k) h2 q
    by_cases hj : j = k
    · refine ⟨fa fz h, ?_, fun a => by have := z2 a; simp; omega⟩
      rw [List.map_cons, List.map_cons, if_pos hj, if_pos hj]
      exact ⟨v, _, fz, h, rfl, q, z1, rfl⟩
    · refine ⟨fa f1 h, ?_, fun a => by have := z2 a; simp; omega⟩
      rw [List.map_cons, List.map_cons, if_neg hj, if_neg hj]
      exact ⟨x, _, f1, h, rfl, h1, z1, rfl⟩
theorem RepK.mapN {H : Hp} {P : Addr → Prop} {k : Key} {d : D} {v : V} {g : FP} : ∀ {ds : List (Key × D)} {l : Lv} {xs : List (Key × V)} {f : FP}, (ds.map (·.1)).Nodup → RepK H P ds l xs f → RepD H P d l v g →
    ∃ h, RepK H P (ds.map fun kv => if kv.1 = k then (kv.1, d) else kv) l (xs.map fun kv => if kv.1 = k then (kv.1, v) else kv) h ∧ ∀ a, h a ≤ f a + g a
  | [], l, xs, f, _, h, q => by
    obtain ⟨rfl, rfl⟩ := h
    exact ⟨fz, ⟨rfl, rfl⟩, fun a => by simp⟩
  | (j, c) :: ds, l, xs, f, nd, h, q => by
    obtain ⟨x, r, f1, f2, rfl, h1, h2, rfl⟩ := h
    rw [List.map_cons, List.nodup_cons] at nd
    by_cases hj : j = k
    · subst hj
      refine ⟨fa g f2, ?_, fun a => by simp; omega⟩
      rw [List.map_cons, List.map_cons, if_pos rfl, if_pos rfl, map_none nd.1, map_none (by rw [h2.keys]; exact nd.1)]
      exact ⟨v, _, g, f2, rfl, q, h2, rfl⟩
    · obtain ⟨h, z1, z2⟩ := RepK.mapN (k := k) nd.2 h2 q
      refine ⟨fa f1 h, ?_, fun a => by have := z2 a; simp; omega⟩
      rw [List.map_cons, List.map_cons, if_neg hj, if_neg hj]
      exact ⟨x, _, f1, h, rfl, h1, z1, rfl⟩
theorem RepK.app {H : Hp} {P : Addr → Prop} {k : Key} {d : D} {v : V} {g : FP} : ∀ {ds : List (Key × D)} {l : Lv} {xs : List (Key × V)} {f : FP}, RepK H P ds l xs f → RepD H P d l v g → RepK H P (ds ++ [(k, d)]) l (xs ++ [(k, v)]) (fa f g)
  | [], l, xs, f, h, q => by
    obtain ⟨rfl, rfl⟩ := h
    rw [fz_a]
    exact ⟨v, [], g, fz, rfl, q, ⟨rfl, rfl⟩, (fa_z _).symm⟩
  | (j, c) :: ds, l, xs, f, h, q => by
    obtain ⟨x, r, f1, f2, rfl, h1, h2, rfl⟩ := h
    exact ⟨x, _, f1, fa f2 g, rfl, h1, RepK.app h2 q, fa_assoc _ _ _⟩
theorem RepK.put {H : Hp} {P : Addr → Prop} {k : Key} {d : D} {v : V} {g : FP} {ds : List (Key × D)} {l : Lv} {xs : List (Key × V)} {f : FP} (hc : imm d = true ∨ (ds.map (·.1)).Nodup) (h : RepK H P ds l xs f) (q : RepD H P d l v g) : ∃ h, RepK H P (dputK k d ds) l (putK xs k v) h ∧ ∀ a, h a ≤ f a + g a := by
  unfold dputK putK
  rw [any_keys h.keys]
  by_cases c : (ds.any fun kv => decide (kv.1 = k)) = true
  · rw [if_pos c, if_pos c]
    rcases hc with hc | hc
    · obtain ⟨h', z1, z2⟩ := RepK.mapI (k := k) h (RepD.imm (P' := P) l hc q).2
      exact ⟨h', z1, fun a => by have := z2 a; omega⟩
    · exact RepK.mapN hc h q
  · rw [if_neg c, if_neg c]
    exact ⟨_, h.app q, fun a => Nat.le_refl _⟩
theorem ixN_lt {n : Nat} {i : Int} {j : Nat} (h : ixN n i = some j) : j < n := by
  unfold ixN at h
  split at h
  · split at h
    · cases h; omega
    · cases h
  · split at h
    · cases h; omega
    · cases h
/-- ahead of a store in a dict -/
theorem prepK (S : St0 σ e H P F) (hg : gt e i = .own (.dK kvs) lv) (hl : lv ≠ .sh) (q : RepD H P d k v f) (fr : Frm f H P (tot F)) :
    ∃ a xs P' F' g' f', σ[i]? = some (some (.ref a)) ∧ H a = some (.dK xs) ∧ xs.length = kvs.length ∧ i < e.length ∧ St0 σ (e.set i (.own (.dK kvs) (addLv lv k))) H P' F' ∧ F'[i]? = some (fa (fo a) g') ∧
      RepK H P' kvs (addLv lv k).pred xs g' ∧ RepD H P' d (addLv lv k).pred v f' ∧ Frm f' H P' (tot F') ∧ Stp H P (fa (tot F) f) H P' (fa (tot F') f') := by
  obtain ⟨a, xs, g, h1, h2, h3, h4, h5, h6, h7⟩ := S.dct hg hl
  by_cases hf : lv = .full ∧ k = .full
  · obtain ⟨rfl, rfl⟩ := hf
    have e1 : e.set i (.own (.dK kvs) (addLv .full .full)) = e := set_get_self (gt_own hg)
    refine ⟨a, xs, P, F, g, f, h1, h4, h5.len, h3, by rw [e1]; exact S, h2, h5, q, fr, .refl _ _ _⟩
  · have e1 : addLv lv k = .top := by unfold addLv; rw [if_neg hf]
    rw [e1]
    have zz : RepD H (pAdd P g) (.dK kvs) .top (.ref a) (fo a) := ⟨a, xs, fz, rfl, RepK.shr (fun _ h => .inl h) (fun _ h => .inr h) h5, .inr ⟨by simp, h4, (fa_z _).symm⟩⟩
    obtain ⟨S1, st1, ts⟩ := S.freeze h1 h2 g (fun b => by simp; omega) zz h3
    have frs := (st1.frm fr)
    have q1 : RepL H (pAdd P g) [d] k [v] f := RepL.one (q.car ⟨fun _ _ _ h => h, fun _ _ _ h => h, fun _ _ h => h, fun _ h => .inl h⟩)
    obtain ⟨P2, f2, S2, q2, fr2, st2⟩ := RepL.lower' S1 q1 frs (l := .sh) (by simp) (by simp)
    have ez : f2 = fz := RepL.sh_z q2
    subst ez
    have hF : (F.set i (fo a))[i]? = some (fa (fo a) fz) := by
      rw [fa_z]
      exact List.getElem?_set_self (List.getElem?_eq_some_iff.mp h2).1
    have zs : RepK H P2 kvs .sh xs fz := by
      have := S2.rel.get (i := i) (d := .dK kvs) (l := .top) (List.getElem?_set_self h3)
      obtain ⟨v, f', y1, y2, y3⟩ := this
      rw [h1] at y1; cases y1
      obtain ⟨a', xs', g', y4, y5, y6⟩ := y3
      cases y4
      rcases y6 with ⟨y6, _⟩ | ⟨_, y7, y8⟩
      · cases y6
      · rw [h4] at y7; cases y7
        have : g' = fz := RepK.sh_z' _ _ _ y5
        rw [this] at y5; exact y5
    obtain ⟨v', r', f1, f3, y1, y2, ⟨y3, y4⟩, y5⟩ := q2
    subst y3 y4
    injection y1 with y1 _
    subst y1
    rw [fa_z] at y5
    subst y5
    exact ⟨a, xs, P2, _, fz, fz, h1, h4, h5.len, h3, S2, hF, zs, y2, Frm.z, (st1.wide f).trans st2⟩
end
section
variable {cs : CS} {W : WC} {Z : Ends} {A B : List Nat} {σ : L2.St} {H : Hp} {m a b : E} {K : PySem.W.Frag}
/-- a value while another one is kept -/
theorem PF.xf {P : Addr → Prop} {F : List FP} {f : FP} {r : R X} {g : X → Env → Fl} {e : Env} (S : St0 σ e H P F) (fr : Frm f H P (tot F)) (h : PF W Z A σ H P (fa (tot F) f) (r.fl g)) :
    PX W σ H P (tot F) r fun w H' => ∃ y e' P' F' f', St0 σ e' H' P' F' ∧ RX σ H' P' y w f' ∧ Frm f' H' P' (tot F') ∧ Frm f H' P' (fa (tot F') f') ∧ Car H H' P P' f ∧ PF W Z A σ H' P' (fa (tot F') (fa f f')) (g y e') := by
  cases r with
  | ok x e' =>
    intro v H' P' F' g' S' rx fg st
    have s2 := st.wide f
    refine ⟨x, e', P', F', g', S', rx, fg, st.frm fr, st.car fr S.sep, PF.from (Kp.refl _ _) (T1 := fa (tot F') (fa f g')) ?_ h⟩
    exact s2.mono (fun _ => Nat.le_refl _) fun a => by simp; omega
  | exc c e' =>
    intro H' P' F' S' st
    exact h σ H' P' F' (Kp.refl _ _) S' ((st.wide f).mono (fun _ => Nat.le_refl _) fun a => by simp)
  | stk => exact h
def rSetA : TSet := fun o i v H Q => rSetL o i v H Q ∨ ∃ a H', o = .ref a ∧ DPut H a i v H' ∧ Q H'
theorem set_any {X : Cx} (hu : X.A.units + 1 < cLine) : PSet X rSetA := by
  intro pins s σ H o i v ov iv u Q I ro ri rv h
  rcases h with h | ⟨a, H', rfl, g, q⟩
  · exact set_list pins s σ H o i v ov iv u Q I ro ri rv h
  · cases ro
    exact d_setItem hu I g ri rv fun s4 I4 => ⟨H', I4, q⟩
theorem setI_read {i : Nat} (h : tS cs W A (.setI i b a) Z σ H) : tAsg (tI cs W a) (gSub (tVar i) (tI cs W b) rSetA) Z σ H := by
  obtain ⟨e, P, F, S, q⟩ := h
  rw [exec] at q
  refine ⟨e, P, F, S, (PF.x q).mono fun v H1 ⟨x, e1, P1, F1, f, S1, rx, fr, q1⟩ => ?_⟩
  obtain ⟨d, l, e2, hu, q2⟩ := PF.use q1
  obtain ⟨P2, F2, f2, S2, r2, fr2, st2⟩ := use_ok S1 rx fr hu
  split at q2
  case h_2 => exact q2.elim
  rename_i d0 l0 hg0
  obtain ⟨o, fo', ho, _, _⟩ := S2.rel.get (gt_own hg0)
  refine ⟨o, ho, e2, P2, F2, S2, (PF.xf S2 fr2 (PF.from (Kp.refl _ _) st2 q2)).mono fun w H2 ⟨y, e3, P3, F3, f3, S3, ry, fr3, frk, car, q3⟩ => ?_⟩
  have frd : Frm f2 H2 P3 (tot F3) := frk.less fun c => by simp
  replace q3 := PF.from (Kp.refl A σ) (T1 := fa (tot F3) f2) ((Stp.refl H2 P3 _).mono (fun _ => Nat.le_refl _) fun c => by simp) q3
  unfold setX at q3
  split at q3
  · rename_i ds lv j hg hy
    obtain ⟨ly, gy, ryy⟩ := deref_ok S3 ry hy
    obtain rfl := rep_int ryy
    split at q3
    · exact q3.elim
    rename_i hl
    split at q3
    · rename_i n hn
      obtain ⟨p, xs, P4, F4, g4, f4, h1, h2, h3, h4, S4, h5, h6, h7, fr4, st4⟩ := prepL S3 hg hl (RepL.one (r2.car car)) frd
      rw [ho] at h1
      cases h1
      obtain ⟨v', r', f1, f5, y1, y2, ⟨y3, y4⟩, y5⟩ := h7
      subst y3 y4
      injection y1 with y1 _
      subst y1
      rw [fa_z] at y5
      subst y5
      have hn' : n < ds.length := (ixN_lt hn)
      obtain ⟨hh, z1, z2⟩ := h6.set hn' y2
      refine .inl ⟨p, xs, j, n, rfl, rfl, h2, by rw [h3]; exact hn, ?_⟩
      exact mut_nx S4 ho h2 h4 h5 fr4 z1 z2 (addLv_ne _ _) st4 q3
    · exact q3.elim
  · rename_i kvs lv kd hg hy
    obtain ⟨ly, gy, ryy⟩ := deref_ok S3 ry hy
    split at q3
    · exact q3.elim
    rename_i hl
    split at q3
    · rename_i key hk
      obtain rfl := rep_key1 hk ryy
      split at q3
      · rename_i hz
        obtain ⟨p, xs, P4, F4, g4, f4, h1, h2, h3, h4, S4, h5, h6, h7, fr4, st4⟩ := prepK S3 hg hl (r2.car car) frd
        rw [ho] at h1
        cases h1
        obtain ⟨hh, z1, z2⟩ := h6.put (k := key) hz.2 h7
        refine .inr ⟨p, _, rfl, .inl ⟨xs, key, h2, rfl, by rw [h3]; exact hz.1, rfl⟩, ?_⟩
        have one := S4.one p
        have le := tot_le p h5
        simp [fo_same] at le
        have hg0 : g4 p = 0 := by omega
        have hf0 : f4 p = 0 := Nat.eq_zero_of_not_pos fun z => by have := (fr4 p z).2.1; omega
        have np : ¬ P4 p := fun z => by have := S4.sep p z; omega
        have hh0 : hh p = 0 := by have := z2 p; omega
        have qn : RepD (upd H2 p (.dK (putK xs key v))) P4 (.dK (dputK key d kvs)) (addLv lv l) (.ref p) (fa (fo p) hh) := by
          refine ⟨p, putK xs key v, hh, rfl, z1.car (car_mut h2 rfl np hh0), .inr ⟨addLv_ne _ _, upd_same, rfl⟩⟩
        obtain ⟨S', fr', st'⟩ := S4.mut (r := fz) ho h5 (by rw [List.length_set]; exact h4) h2 rfl fr4 qn (fun c => by have := z2 c; simp; omega)
        rw [List.set_set] at S'
        exact q3 σ _ P4 _ (Kp.refl _ _) S' ((st4.trans st').mono (fun _ => Nat.le_refl _) fun c => by simp)
      · exact q3.elim
    · exact q3.elim
  · exact q3.elim
end
end VI
namespace VI
open PySem PySem.Spec PyProof.Rows L2
def forF (cs : CS) (g : G) (b : Ss) : D × Lv → Env → Fl := fun q e2 => match bindG g q.1 q.2 e2 with
  | some e3 => execs cs b e3
  | none => .stk
section
variable {cs : CS} {W : WC} {Z : Ends} {A B : List Nat} {σ0 : L2.St} {K : PySem.W.Frag} {J : L2.It} {Bk : List (D × Lv) → Nat → Hp → (Addr → Prop) → FP → Prop} {o : Option (Nat × Slot)} {g : G} {b : Ss}
/-- a hidden slot again as it was -/
theorem rest_ok {σ : L2.St} {H : Hp} {P : Addr → Prop} {F : List FP} {f : FP} {e : Env} {ps : List (D × Lv)} {i : Nat} (hid : Hid σ0 o Bk) (ho : ∀ j s, o = some (j, s) → j ∉ B) (k : Kp B σ0 σ) (S : St0 σ e H P F) (hB : Bk ps i H P f) (fr : Frm f H P (tot F)) :
    ∃ F2, St0 σ (restore e o) H P F2 ∧ ∀ a, tot F2 a ≤ tot F a + f a := by
  cases o with
  | none => exact ⟨F, S, fun a => Nat.le_add_right _ _⟩
  | some p =>
    obtain ⟨j, s⟩ := p
    obtain ⟨v, d, l, h1, rfl, h2⟩ := hid
    have h3 : σ[j]? = some (some v) := by rw [k j (ho j _ rfl)]; exact h1
    have hj : j < e.length := by
      have := S.rel.len.1
      have := (List.getElem?_eq_some_iff.mp h3).1
      omega
    obtain ⟨S3, t3⟩ := S.bind (h2 _ _ _ _ _ hB) fr hj
    rw [set_get_self h3] at S3
    exact ⟨_, S3, t3⟩
def FInv (cs : CS) (W : WC) (Z : Ends) (A B : List Nat) (σ0 : L2.St) (Bk : List (D × Lv) → Nat → Hp → (Addr → Prop) → FP → Prop) (o : Option (Nat × Slot)) (g : G) (b : Ss) (i m : Nat) (σ : L2.St) (H : Hp) : Prop :=
  ∃ ps e P F f, m = ps.length ∧ Kp B σ0 σ ∧ St0 σ e H P F ∧ Bk ps i H P f ∧ Frm f H P (tot F) ∧ PF W Z A σ H P (fa (tot F) f) ((forL (forF cs g b) ps e).restore o)
theorem for_turn {i m : Nat} {σ : L2.St} {H : Hp} (w : Wk J Bk) (hid : Hid σ0 o Bk) (ho : ∀ j s, o = some (j, s) → j ∉ B) (hg : ∀ j ∈ g.slots, j ∈ B) (hA : ∀ j ∈ B, j ∈ A) (h : FInv cs W Z A B σ0 Bk o g b i m σ H) :
    (J.stop i H ∧ Z.nx σ H) ∨ (J.go i H ∧ ∃ N : L2.St → Hp → Prop, (∀ σ' H', N σ' H' → ∃ m', m' < m ∧ FInv cs W Z A B σ0 Bk o g b (i + 1) m' σ' H') ∧ ∀ x H', J.yld i H x H' → tGr K g x σ H' fun σ2 H2 => tSs cs W B b { Z with nx := N, ct := N, bk := Z.nx } σ2 H2) := by
  obtain ⟨ps, e, P, F, f, rfl, kp, S, hB, fr, q⟩ := h
  cases ps with
  | nil =>
    refine .inl ⟨w.nil hB, ?_⟩
    obtain ⟨F2, S2, t2⟩ := rest_ok hid ho kp S hB fr
    replace q : PF W Z A σ H P (fa (tot F) f) (.nx (restore e o)) := q
    exact q σ H P F2 (Kp.refl _ _) S2 ((Stp.refl H P _).mono (fun _ => Nat.le_refl _) fun a => by simpa using t2 a)
  | cons p ps =>
    obtain ⟨d, l⟩ := p
    refine .inr ⟨w.go hB, fun σ' H' => FInv cs W Z A B σ0 Bk o g b (i + 1) ps.length σ' H', fun σ' H' n => ⟨ps.length, by simp, n⟩, fun x H1 y1 => ?_⟩
    obtain ⟨f1, f2, hf, rx, hB1, nw⟩ := w.cons hB fr S.sep y1
    have S1 := nw.st S
    have fr1 : Frm f H1 P (tot F) := (nw.stp (T := tot F)).frm fr
    replace q := q.from (Kp.refl _ _) (nw.stp (P := P))
    replace q : PF W Z A σ H1 P (fa (tot F) f) ((match forF cs g b (d, l) e with
      | .nx e1 => forL (forF cs g b) ps e1
      | .brk e1 => .nx e1
      | r => r).restore o) := q
    unfold forF at q
    cases hb : bindG g d l e with
    | none => rw [hb] at q; exact q.elim
    | some e3 =>
      rw [hb] at q
      replace q : PF W Z A σ H1 P (fa (tot F) f) ((match execs cs b e3 with
        | .nx e1 => forL (forF cs g b) ps e1
        | .brk e1 => .nx e1
        | r => r).restore o) := q
      refine bind_ok g S1 rx (fr1.mono fun a => by have := hf a; omega) hb fun σ2 F3 S3 t3 k3 => ?_
      have kp2 : Kp B σ σ2 := fun j hj => k3 j fun z => hj (hg j z)
      have fr3 : Frm f2 H1 P (tot F3) := fun a z => by
        have h1 := hf a
        have h2 := t3 a
        obtain ⟨z1, z2, z3, z4⟩ := fr1 a (by omega)
        exact ⟨by omega, by omega, z3, z4⟩
      replace q := q.from (kp2.mono hA) (T1 := fa (tot F3) f2) ((Stp.refl H1 P _).mono (fun _ => Nat.le_refl _) fun a => by have := t3 a; have := hf a; simp; omega)
      refine ⟨e3, P, F3, S3, ?_⟩
      cases ex : execs cs b e3 with
      | stk => rw [ex] at q; exact q
      | nx e4 =>
        rw [ex] at q
        intro σ4 H4 P4 F4 k4 S4 st4
        exact ⟨ps, e4, P4, F4, f2, rfl, (kp.trans kp2).trans k4, S4, w.car hB1 st4 fr3 S3.sep, st4.frm fr3, PF.from (k4.mono hA) (st4.wide f2) q⟩
      | brk e4 =>
        rw [ex] at q
        intro σ4 H4 P4 F4 k4 S4 st4
        replace q : PF W Z A σ2 H1 P (fa (tot F3) f2) (.nx (restore e4 o)) := q
        obtain ⟨F5, S5, t5⟩ := rest_ok hid ho ((kp.trans kp2).trans k4) S4 (w.car hB1 st4 fr3 S3.sep) (st4.frm fr3)
        exact q σ4 H4 P4 F5 (k4.mono hA) S5 ((st4.wide f2).mono (fun _ => Nat.le_refl _) fun a => by simpa using t5 a)
      | exc c e4 =>
        rw [ex] at q
        intro σ4 H4 P4 F4 k4 S4 st4
        replace q : PF W Z A σ2 H1 P (fa (tot F3) f2) (.exc c (restore e4 o)) := q
        obtain ⟨F5, S5, t5⟩ := rest_ok hid ho ((kp.trans kp2).trans k4) S4 (w.car hB1 st4 fr3 S3.sep) (st4.frm fr3)
        exact q σ4 H4 P4 F5 (k4.mono hA) S5 ((st4.wide f2).mono (fun _ => Nat.le_refl _) fun a => by simpa using t5 a)
      | ret d' l' e4 =>
        rw [ex] at q
        intro σ4 v H4 P4 F4 fv k4 S4 rv frv st4
        replace q : PF W Z A σ2 H1 P (fa (tot F3) f2) (.ret d' l' (restore e4 o)) := q
        have fr4 := st4.frm fr3
        obtain ⟨F5, S5, t5⟩ := rest_ok hid ho ((kp.trans kp2).trans k4) S4 (w.car hB1 st4 fr3 S3.sep) (fr4.less fun a => by simp)
        refine q σ4 v H4 P4 F5 fv (k4.mono hA) S5 rv (fun a z => ?_) ((st4.wide f2).mono (fun _ => Nat.le_refl _) fun a => by have := t5 a; simp; omega)
        obtain ⟨z1, z2, z3, z4⟩ := frv a z
        have : f2 a = 0 := Nat.eq_zero_of_not_pos fun y => by
          have := (fr4 a y).2.1
          simp at this; omega
        have := t5 a
        exact ⟨z1, by omega, z3, z4⟩
theorem for_read {it : It} {σ : L2.St} {H : Hp} (ho : ∀ e ps j s e1, evalI cs it e = .ok (ps, some (j, s)) e1 → j ∉ B) (hg : ∀ j ∈ g.slots, j ∈ B) (hA : ∀ j ∈ B, j ∈ A) (h : tS cs W A (.for g it b) Z σ H) : tFor (iI cs W it) (tGr K g) (tSs cs W B b) Z σ H := by
  obtain ⟨e, P, F, S, q⟩ := h
  rw [exec] at q
  refine ⟨e, P, F, S, ?_⟩
  cases ei : evalI cs it e with
  | stk => rw [ei] at q; exact q
  | exc c' e' =>
    rw [ei] at q
    exact fun H' P' F' S' st => q σ H' P' F' (Kp.refl _ _) S' st
  | ok p e1 =>
    obtain ⟨ps, o⟩ := p
    rw [ei] at q
    intro J Bk H1 P1 F1 f w hB hid S1 fr st
    replace q : PF W Z A σ H P (tot F) ((forL (forF cs g b) ps e1).restore o) := q
    exact ⟨FInv cs W Z A B σ Bk o g b, ⟨ps.length, ps, e1, P1, F1, f, rfl, Kp.refl _ _, S1, hB, fr, PF.from (Kp.refl _ _) st q⟩, fun i m σ' H' h => for_turn w hid (fun j s e0 => ho e ps j s e1 (by rw [ei, e0])) hg hA h⟩
end
end VI
namespace VI
open PySem PySem.Spec PyProof.Rows L2
section
variable {cs : CS} {W : WC} {Z : Ends} {A B : List Nat} {c : E} {b : Ss} {σ : L2.St} {H : Hp}
theorem whl_read (hA : ∀ j ∈ B, j ∈ A) (h : tS cs W A (.whl c b) Z σ H) : tWhile (tT cs W c) (tSs cs W B b) Z σ H := by
  obtain ⟨e, P, F, S, q⟩ := h
  rw [exec] at q
  refine ⟨fun m σ H => ∃ e P F, St0 σ e H P F ∧ PF W Z A σ H P (tot F) (whlL (fun e1 => tst (evalE cs c e1)) (fun e1 => execs cs b e1) m e), ⟨turns, e, P, F, S, q⟩, ?_⟩
  rintro m σ H ⟨e, P, F, S, q⟩
  cases m with
  | zero => exact q.elim
  | succ n =>
    replace q : PF W Z A σ H P (tot F) ((tst (evalE cs c e)).fl fun t e1 => if t then (match execs cs b e1 with
      | .nx e2 => whlL (fun e1 => tst (evalE cs c e1)) (fun e1 => execs cs b e1) n e2
      | .brk e2 => .nx e2
      | r => r) else .nx e1) := q
    refine ⟨e, P, F, S, (PF.b q).mono fun t H1 ⟨e1, P1, F1, S1, q1⟩ => ?_⟩
    cases t with
    | false =>
      replace q1 : PF W Z A σ H1 P1 (tot F1) (.nx e1) := q1
      exact q1 σ H1 P1 F1 (Kp.refl _ _) S1 (.refl _ _ _)
    | true =>
      replace q1 : PF W Z A σ H1 P1 (tot F1) (match execs cs b e1 with
        | .nx e2 => whlL (fun e1 => tst (evalE cs c e1)) (fun e1 => execs cs b e1) n e2
        | .brk e2 => .nx e2
        | r => r) := q1
      refine ⟨fun σ' H' => ∃ e P F, St0 σ' e H' P F ∧ PF W Z A σ' H' P (tot F) (whlL (fun e1 => tst (evalE cs c e1)) (fun e1 => execs cs b e1) n e), fun σ' H' h => ⟨n, Nat.lt_succ_self n, h⟩, e1, P1, F1, S1, ?_⟩
      cases ex : execs cs b e1 with
      | stk => rw [ex] at q1; exact q1
      | nx e2 =>
        rw [ex] at q1
        exact fun σ4 H4 P4 F4 k4 S4 st4 => ⟨e2, P4, F4, S4, PF.from (k4.mono hA) st4 q1⟩
      | brk e2 =>
        rw [ex] at q1
        exact fun σ4 H4 P4 F4 k4 S4 st4 => q1 σ4 H4 P4 F4 (k4.mono hA) S4 st4
      | exc c' e2 =>
        rw [ex] at q1
        exact fun σ4 H4 P4 F4 k4 S4 st4 => q1 σ4 H4 P4 F4 (k4.mono hA) S4 st4
      | ret d l e2 =>
        rw [ex] at q1
        exact fun σ4 v H4 P4 F4 f k4 S4 r fr st4 => q1 σ4 v H4 P4 F4 f (k4.mono hA) S4 r fr st4
end
end VI
namespace VI
open PySem PySem.Spec PyProof.Rows L2
section
variable {cs : CS} {W : WC} {Z : Ends} {A B : List Nat} {a : E} {σ : L2.St} {H : Hp}
theorem aug_read {i : Nat} (hA : i ∈ A) (h : tS cs W A (.aug i a) Z σ H) : tAug i (tI cs W a) (ipI fun i j => i + j) Z σ H := by
  obtain ⟨e, P, F, S, q⟩ := h
  rw [exec] at q
  split at q
  · rename_i k lk hg
    obtain ⟨v, f, h1, h2, h3⟩ := S.rel.get (gt_own hg)
    refine ⟨v, h1, e, P, F, S, (PF.x q).mono fun w H1 ⟨y, e1, P1, F1, f1, S1, ry, fr, q1⟩ => ?_⟩
    split at q1
    · rename_i j hy
      obtain ⟨ly, gy, ryy⟩ := deref_ok S1 ry hy
      split at q1
      · rename_i hi
        refine ⟨k, j, rep_int h3, rep_int ryy, ?_⟩
        obtain ⟨S2, t2⟩ := S1.bind (d := .int (k + j)) (l := .full) (v := .int (k + j)) (f := fz) ⟨rfl, rfl⟩ Frm.z hi
        refine q1 _ H1 P1 _ (fun j hj => ?_) S2 ((Stp.refl H1 P1 _).mono (fun _ => Nat.le_refl _) fun c => by have := t2 c; simp at this ⊢; omega)
        rw [List.getElem?_set_ne (fun z => hj (by rw [← z]; exact hA))]
      · exact q1.elim
    · exact q1.elim
  · exact q.elim
end
end VI
namespace VI
open PySem PySem.Spec PyProof.Rows L2
/-! ### displays of dicts -/
def trsOf (cs : CS) (W : WC) : Es → List (TE × TE)
  | .cons mk (.cons mv r) => (tI cs W mk, tI cs W mv) :: trsOf cs W r
  | _ => []
def evenE : Es → Bool
  | .nil => true
  | .cons _ (.cons _ r) => evenE r
  | _ => false
structure DispOk (X : Cx) (cs : CS) (W : WC) (p : Pos) (m : Es) (ks : List (Option Expr)) (vs : List Expr) : Prop where
  ev : evenE m = true
  pp : PPs X p ks vs (trsOf cs W m)
  al : ks.all (·.isSome) = true
  ln : ks.length = vs.length
section
variable {X : Cx} {cs : CS} {W : WC} {p : Pos} {m : Es} {ks : List (Option Expr)} {vs : List Expr} {mk mv : E} {k v : Expr}
theorem DispOk.nil : DispOk X cs W p .nil [] [] := ⟨rfl, pps_nil, rfl, rfl⟩
theorem DispOk.cons (hk : Snd X cs W mk k) (hv : Snd X cs W mv v) (h : DispOk X cs W p m ks vs) : DispOk X cs W p (.cons mk (.cons mv m)) (some k :: ks) (v :: vs) :=
  ⟨h.ev, pps_cons hk.pe hv.pe h.pp, by simpa using h.al, by simp [h.ln]⟩
def flatP (ps : List (V × V)) : List V := ps.flatMap fun p => [p.1, p.2]
theorem disp_pairs {σ : L2.St} {Q : VK} {G' : List VI.X → Env → R VI.X} : ∀ (m : Es) (vs : List V) (H : Hp) (K : List (V × V) → Hp → Prop), evenE m = true → Ns W σ vs H (fun xs e => (evalEs cs m e).bind fun ys e1 => G' (xs ++ ys) e1) Q →
    (∀ ps H', Ns W σ (vs ++ flatP ps) H' G' Q → K ps H') → tPairs (trsOf cs W m) σ H K
  | .nil, vs, H, K, _, h, k => by
    refine k [] H ?_
    obtain ⟨xs, e, P, F, f, S, rx, fr, q⟩ := h
    refine ⟨xs, e, P, F, f, S, by rw [show vs ++ flatP [] = vs by simp [flatP]]; exact rx, fr, ?_⟩
    have q' : PX W σ H P (fa (tot F) f) ((evalEs cs .nil e).bind fun ys e1 => G' (xs ++ ys) e1) Q := q
    rw [evalEs] at q'
    have q2 : PX W σ H P (fa (tot F) f) (G' (xs ++ []) e) Q := q'
    rwa [List.append_nil] at q2
  | .cons mk (.cons mv r), vs, H, K, he, h, k => by
    refine tI_mono (h.next (a := mk) (G' := fun xs e => (evalEs cs (.cons mv r) e).bind fun ys e1 => G' (xs ++ ys) e1) fun xs e _ => ?_) fun x H1 n => ?_
    · rw [evalEs]
      cases evalE cs mk e with
      | stk => rfl
      | exc _ _ => rfl
      | ok x e1 =>
        show ((evalEs cs (.cons mv r) e1).bind fun xs e2 => R.ok (x :: xs) e2).bind _ = (evalEs cs (.cons mv r) e1).bind _
        cases evalEs cs (.cons mv r) e1 with
        | stk => rfl
        | exc _ _ => rfl
        | ok ys e2 => show G' (xs ++ x :: ys) e2 = G' (xs ++ [x] ++ ys) e2; rw [List.append_assoc]; rfl
    · refine tI_mono (n.next (a := mv) (G' := fun xs e => (evalEs cs r e).bind fun ys e1 => G' (xs ++ ys) e1) fun xs e _ => ?_) fun y H2 n2 => ?_
      · rw [evalEs]
        cases evalE cs mv e with
        | stk => rfl
        | exc _ _ => rfl
        | ok x e1 =>
          show ((evalEs cs r e1).bind fun xs e2 => R.ok (x :: xs) e2).bind _ = (evalEs cs r e1).bind _
          cases evalEs cs r e1 with
          | stk => rfl
          | exc _ _ => rfl
          | ok ys e2 => show G' (xs ++ x :: ys) e2 = G' (xs ++ [x] ++ ys) e2; rw [List.append_assoc]; rfl
      · refine disp_pairs r (vs ++ [x] ++ [y]) H2 _ he n2 fun ps H' n3 => k ((x, y) :: ps) H' ?_
        have e : vs ++ flatP ((x, y) :: ps) = vs ++ [x] ++ [y] ++ flatP ps := by simp [flatP]
        rw [e]; exact n3
  | .cons _ .nil, _, _, _, he, _, _ => by cases he
theorem pairs_rep {σ : L2.St} {e : Env} {H : Hp} {P : Addr → Prop} {F : List FP} (S : St0 σ e H P F) : ∀ (ps : List (V × V)) (rest : List VI.X) (f : FP) (ds : List D) (kd : List (Key × D)), RXs σ H P rest (flatP ps) f → derefs e rest = some ds → pairsK ds = some kd → (kd.all fun kv => imm kv.2) = true →
    ∃ kvs : List (Key × V), ps = kvs.map (fun kv => (kV kv.1, kv.2)) ∧ RepK H P kd .full kvs fz
  | [], rest, f, ds, kd, rx, hd, hk, ha => by
    have : rest = [] := by
      have := rx.len
      simp [flatP] at this
      exact this
    subst this
    cases hd
    cases hk
    exact ⟨[], rfl, rfl, rfl⟩
  | (x, y) :: ps, rest, f, ds, kd, rx, hd, hk, ha => by
    have ef : flatP ((x, y) :: ps) = x :: y :: flatP ps := by simp [flatP]
    rw [ef] at rx
    cases rest with
    | nil => obtain ⟨z, _⟩ := rx; cases z
    | cons a rest =>
      obtain ⟨_, _, f1, f2, e1, rx1, rx2, _⟩ := rx
      cases e1
      cases rest with
      | nil => obtain ⟨z, _⟩ := rx2; cases z
      | cons b rest =>
        obtain ⟨_, _, f3, f4, e2, rx3, rx4, _⟩ := rx2
        cases e2
        obtain ⟨d1, r1, hd1, hr1, rfl⟩ := derefs_cons hd
        obtain ⟨d2, r2, hd2, hr2, rfl⟩ := derefs_cons hr1
        have hk' : ((key1 d1).bind fun k => (pairsK r2).map ((k, d2) :: ·)) = some kd := hk
        obtain ⟨key, hkey, hk2⟩ := Option.bind_eq_some_iff.mp hk'
        obtain ⟨kd', hkd', rfl⟩ := Option.map_eq_some_iff.mp hk2
        have ha' : imm d2 = true ∧ (kd'.all fun kv => imm kv.2) = true := by simpa using ha
        obtain ⟨kvs, hp, rk⟩ := pairs_rep S ps rest f4 r2 kd' rx4 hr2 hkd' ha'.2
        obtain ⟨l1, g1, q1⟩ := deref_ok S rx1 hd1
        obtain ⟨l2, g2, q2⟩ := deref_ok S rx3 hd2
        obtain rfl := rep_key1 hkey q1
        refine ⟨(key, y) :: kvs, by rw [hp]; rfl, y, kvs, fz, fz, rfl, (RepD.imm (P' := P) .full ha'.1 q2).2, rk, rfl⟩
theorem merge_rep {H : Hp} {P : Addr → Prop} : ∀ (more : List (Key × D)) (mv : List (Key × V)) (kd : List (Key × D)) (kv : List (Key × V)), (more.all fun kv => imm kv.2) = true → RepK H P more .full mv fz → RepK H P kd .full kv fz →
    RepK H P (more.foldl (fun acc kv => dputK kv.1 kv.2 acc) kd) .full (mergeK kv mv) fz
  | [], mv, kd, kv, _, h, q => by
    obtain ⟨rfl, _⟩ := h
    exact q
  | (k, d) :: more, mv, kd, kv, ha, h, q => by
    obtain ⟨v, r, f1, f2, rfl, h1, h2, hf⟩ := h
    have ha' : imm d = true ∧ (more.all fun kv => imm kv.2) = true := by simpa using ha
    have z := (RepD.imm (P' := P) .full ha'.1 h1).2
    have z2 : f2 = fz := funext fun a => by
      have := congrFun hf a
      simp at this
      simp; omega
    subst z2
    obtain ⟨g, p1, p2⟩ := q.put (k := k) (.inl ha'.1) z
    have : g = fz := funext fun a => by have := p2 a; simp at this; simpa using this
    subst this
    exact merge_rep more r _ _ ha'.2 h2 p1
theorem disp_end {σ : L2.St} {Q : VK} {H : Hp} {p : Addr} {ps : List (V × V)} (n : Ns W σ (.ref p :: flatP ps) H dispX Q) : H p = some (.dK []) ∧ ∃ kvs : List (Key × V), ps = kvs.map (fun kv => (kV kv.1, kv.2)) ∧ kvs.length ≤ 15 ∧ Q (.ref p) (upd H p (.dK (mergeK [] kvs))) := by
  obtain ⟨xs, e, P, F, f, S, rx, fr, q⟩ := n
  unfold dispX at q
  split at q
  case h_2 => exact q.elim
  rename_i rest
  obtain ⟨_, _, f1, f2, e1, rx1, rx2, rfl⟩ := rx
  cases e1
  obtain ⟨a, ys, g, ea, ⟨rfl, rfl⟩, z⟩ := (show RepD H P (.dK []) .full (.ref p) f1 from rx1)
  cases ea
  rcases z with ⟨z, _⟩ | ⟨_, hp, rfl⟩
  · cases z
  rw [fa_z] at q fr
  cases hd : derefs e rest with
  | none => rw [hd] at q; exact q.elim
  | some ds =>
    rw [hd] at q
    cases hk : pairsK ds with
    | none => rw [show (some ds).bind pairsK = none from hk] at q; exact q.elim
    | some kd =>
      rw [show (some ds).bind pairsK = some kd from hk] at q
      replace q : PX W σ H P (fa (tot F) (fa (fo p) f2)) (ofO (if kd.length ≤ 15 ∧ (kd.all fun kv => imm kv.2) = true then some (.tmp (.dK (kd.foldl (fun acc kv => dputK kv.1 kv.2 acc) [])) .full) else none) e) Q := q
      split at q
      case isFalse => exact q.elim
      rename_i hc
      obtain ⟨kvs, hps, rk⟩ := pairs_rep S ps rest f2 ds kd rx2 hd hk hc.2
      have hlen : kvs.length = kd.length := rk.len
      refine ⟨hp, kvs, hps, by omega, ?_⟩
      have rm := merge_rep kd kvs [] [] hc.2 rk ⟨rfl, rfl⟩
      obtain ⟨z1, z2, z3, z4⟩ := fr p (by simp [fo_same])
      have q2 : PX W σ H P (fa (tot F) (fa (fo p) f2)) (.ok (.tmp (.dK (kd.foldl (fun acc kv => dputK kv.1 kv.2 acc) [])) .full) e) Q := q
      refine q2 (.ref p) _ P F (fo p) ⟨Rels.car (car_mut hp rfl z3 z2) S.rel, S.one, S.sep, fun a h => ?_, fun a h => ?_⟩ ?_ (fun a h => ?_) ⟨fun a o h h0 => ?_, fun a xs h => ?_, fun a h => .inl h, fun a h => h, fun a h => .inl (by simp at h ⊢; omega), fun a h => ?_⟩
      · by_cases e : a = p
        · rw [e, upd_same]; simp
        · rw [upd_ne e]; exact S.inP a h
      · by_cases e : a = p
        · rw [e, upd_same]; simp
        · rw [upd_ne e]; exact S.inT a h
      · show RepD (upd H p (.dK (mergeK [] kvs))) P (.dK _) .full (.ref p) (fo p)
        exact ⟨p, _, fz, rfl, rm.car (car_mut hp rfl z3 rfl), .inr ⟨by simp, upd_same, (fa_z _).symm⟩⟩
      · have ea : a = p := by
          refine Classical.byContradiction fun e => ?_
          rw [fo_at, if_neg e] at h; omega
        subst ea
        exact ⟨fo_same a, z2, z3, by rw [upd_same]; simp⟩
      · have e : a ≠ p := fun e => by subst e; simp [fo_same] at h0
        rw [upd_ne e]; exact h
      · refine rd_car (fun o ho => ?_) h
        by_cases e : a = p
        · subst e
          rcases h with h | ⟨o', h⟩ <;> rw [hp] at h <;> cases h
        · rw [upd_ne e]; exact ho
      · by_cases e : a = p
        · rw [e, upd_same]; simp
        · rw [upd_ne e]; exact h
theorem snd_disp {pos : Pos} (h : DispOk X cs W pos m ks vs) (h0 : ks ≠ []) (h15 : ks.length ≤ 15) : Snd X cs W (.disp m) (.Dict ks vs pos) :=
  .plain rfl rfl (pe_imp (pe_disp h.pp h.al h.ln h0 h15) fun σ H Q t p hp => by
    obtain ⟨e, P, F, S, q⟩ := t
    rw [evalE] at q
    have n : Ns W σ [.ref p] (upd H p (.dK [])) (fun xs e => (evalEs cs m e).bind fun ys e1 => dispX (xs ++ ys) e1) Q := by
      refine ⟨[.tmp (.dK []) .full], e, P, F, fa (fo p) fz, S.new _ hp, ⟨_, _, fo p, fz, rfl, ⟨p, [], fz, rfl, ⟨rfl, rfl⟩, .inr ⟨by simp, upd_same, (fa_z _).symm⟩⟩, ⟨rfl, rfl⟩, rfl⟩, Frm.z.new S _ hp, ?_⟩
      rw [fa_z]
      exact PX.from (Stp.new _ hp _) q
    exact disp_pairs m [.ref p] _ _ h.ev n fun ps H' n => disp_end n)
end
end VI
namespace VI
open PySem PySem.Spec PyProof.Rows L2
/-! ### the checker: what is written, by its views -/
def vName : Expr → Option Str
  | .Name x _ => some x | _ => none
def vConst : Expr → Option Const
  | .Constant c _ _ => some c | _ => none
def vBin : Expr → Option (Expr × Operator × Expr)
  | .BinOp a o b _ => some (a, o, b) | _ => none
def vUn : Expr → Option (UnaryOp × Expr)
  | .UnaryOp o a _ => some (o, a) | _ => none
def vCmp : Expr → Option (Expr × List CmpOp × List Expr)
  | .Compare a os bs _ => some (a, os, bs) | _ => none
def vBool : Expr → Option (BoolOp × List Expr × Pos)
  | .BoolOp o es p => some (o, es, p) | _ => none
def vIf : Expr → Option (Expr × Expr × Expr)
  | .IfExp c a b _ => some (c, a, b) | _ => none
def vSub : Expr → Option (Expr × Expr)
  | .Subscript a i _ => some (a, i) | _ => none
def vSlice : Expr → Option (Option Expr × Option Expr × Option Expr)
  | .Slice a b c _ => some (a, b, c) | _ => none
def vList : Expr → Option (List Expr)
  | .List es _ => some es | _ => none
def vTuple : Expr → Option (List Expr)
  | .Tuple es _ _ => some es | _ => none
def vDict : Expr → Option (List (Option Expr) × List Expr)
  | .Dict ks vs _ => some (ks, vs) | _ => none
def vCall : Expr → Option (Expr × List Expr × Nat)
  | .Call f es ks p => if ks.isEmpty then some (f, es, p.line) else none
  | _ => none
def vAttr : Expr → Option (Expr × Str × Nat)
  | .Attribute o m p => some (o, m, p.endLine) | _ => none
def vComp : Expr → Option (Expr × Expr × Expr × List Expr × Scope)
  | .ListComp e [⟨t, i, fs, 0⟩] s _ => some (e, t, i, fs, s) | _ => none
/-- a call of a name: its arguments -/
def vCallN (e : Expr) : Option (Str × List Expr) := match vCall e with
  | some (f, es, _) => (match vName f with
    | some x => some (x, es)
    | none => none)
  | none => none
/-- a call of a name with one argument and one keyword: its constant -/
def vCallW : Expr → Option (Str × Expr × Str × Const)
  | .Call (.Name x _) [a] [⟨some w, .Constant k _ _, _⟩] _ => some (x, a, w, k)
  | _ => none
theorem vCallW_ok {e a : Expr} {x w : Str} {k : Const} (h : vCallW e = some (x, a, w, k)) : ∃ p z p2 p3 pos, e = .Call (.Name x p) [a] [⟨some w, .Constant k z p2, p3⟩] pos := by
  unfold vCallW at h
  split at h
  · cases h; exact ⟨_, _, _, _, _, rfl⟩
  · cases h
/-- a method's call on one line -/
def vCallM (e : Expr) : Option (Expr × Str × List Expr) := match vCall e with
  | some (f, es, l) => (match vAttr f with
    | some (o, m, l') => if l' == l then some (o, m, es) else none
    | none => none)
  | none => none
section
variable {e f o a b c i : Expr} {x m : Str} {es : List Expr}
theorem vName_ok (h : vName e = some x) : ∃ p, e = .Name x p := by cases e <;> first | (cases h; exact ⟨_, rfl⟩) | cases h
theorem vConst_ok {k : Const} (h : vConst e = some k) : ∃ j p, e = .Constant k j p := by cases e <;> first | (cases h; exact ⟨_, _, rfl⟩) | cases h
theorem vBin_ok {op : Operator} (h : vBin e = some (a, op, b)) : ∃ p, e = .BinOp a op b p := by cases e <;> first | (cases h; exact ⟨_, rfl⟩) | cases h
theorem vUn_ok {op : UnaryOp} (h : vUn e = some (op, a)) : ∃ p, e = .UnaryOp op a p := by cases e <;> first | (cases h; exact ⟨_, rfl⟩) | cases h
theorem vCmp_ok {os : List CmpOp} (h : vCmp e = some (a, os, es)) : ∃ p, e = .Compare a os es p := by cases e <;> first | (cases h; exact ⟨_, rfl⟩) | cases h
theorem vBool_ok {op : BoolOp} {p : Pos} (h : vBool e = some (op, es, p)) : e = .BoolOp op es p := by cases e <;> first | (cases h; exact rfl) | cases h
theorem vIf_ok (h : vIf e = some (c, a, b)) : ∃ p, e = .IfExp c a b p := by cases e <;> first | (cases h; exact ⟨_, rfl⟩) | cases h
theorem vSub_ok (h : vSub e = some (a, i)) : ∃ p, e = .Subscript a i p := by cases e <;> first | (cases h; exact ⟨_, rfl⟩) | cases h
theorem vSlice_ok {a b c : Option Expr} (h : vSlice e = some (a, b, c)) : ∃ p, e = .Slice a b c p := by cases e <;> first | (cases h; exact ⟨_, rfl⟩) | cases h
theorem vList_ok (h : vList e = some es) : ∃ p, e = .List es p := by cases e <;> first | (cases h; exact ⟨_, rfl⟩) | cases h
theorem vTuple_ok (h : vTuple e = some es) : ∃ k p, e = .Tuple es k p := by cases e <;> first | (cases h; exact ⟨_, _, rfl⟩) | cases h
theorem vDict_ok {ks : List (Option Expr)} (h : vDict e = some (ks, es)) : ∃ p, e = .Dict ks es p := by cases e <;> first | (cases h; exact ⟨_, rfl⟩) | cases h
theorem vCall_ok {l : Nat} (h : vCall e = some (f, es, l)) : ∃ p, e = .Call f es [] p ∧ p.line = l := by
  cases e with
  | Call f' es' ks p =>
    have h' : (if ks.isEmpty then some (f', es', p.line) else none) = some (f, es, l) := h
    split at h'
    · rename_i hk
      have hk' : ks = [] := by simpa using hk
      cases h'
      exact ⟨p, by rw [hk'], rfl⟩
    · cases h'
  | _ => cases h
theorem vAttr_ok {l : Nat} (h : vAttr e = some (o, m, l)) : ∃ p, e = .Attribute o m p ∧ p.endLine = l := by cases e <;> first | (cases h; exact ⟨_, rfl, rfl⟩) | cases h
theorem vComp_ok {t : Expr} {s : Scope} (h : vComp e = some (a, t, i, es, s)) : ∃ p, e = .ListComp a [⟨t, i, es, 0⟩] s p := by
  unfold vComp at h
  split at h
  · cases h; exact ⟨_, rfl⟩
  · cases h
theorem vCallN_ok (h : vCallN e = some (x, es)) : ∃ p p2, e = .Call (.Name x p) es [] p2 := by
  unfold vCallN at h
  split at h
  · rename_i f es' l hc
    split at h
    · rename_i y hy
      cases h
      obtain ⟨p2, rfl, _⟩ := vCall_ok hc
      obtain ⟨p, rfl⟩ := vName_ok hy
      exact ⟨p, p2, rfl⟩
    · cases h
  · cases h
theorem vCallM_ok (h : vCallM e = some (o, m, es)) : ∃ ap p, e = .Call (.Attribute o m ap) es [] p ∧ (ap.endLine == p.line) = true := by
  unfold vCallM at h
  split at h
  · rename_i f es' l hc
    split at h
    · rename_i o' m' l' hy
      split at h
      · rename_i hl
        cases h
        obtain ⟨p2, rfl, rfl⟩ := vCall_ok hc
        obtain ⟨p, rfl, rfl⟩ := vAttr_ok hy
        exact ⟨p, p2, rfl, hl⟩
      · cases h
    · cases h
  · cases h
end
/-! ### the checker's context -/
structure CC where
  N : List Str
  sc : Scope
  top : Bool
  cells : List Str
  fs : List Fn
  free : List Str
  gi : List (Str × Int)
  gs : List (Str × Str)
structure Ok (X : Cx) (c : CC) (k : Nat) (cv : Str → Value) (W : WC) : Prop where
  n : X.N = c.N
  nd : X.N.Nodup
  sc : X.env.scope = c.sc
  calm : X.calm = true
  room : Room k X.A
  top : c.top = true → ∀ x, X.fn x = true
  blk : ∀ x ∈ c.cells, X.fn x = true
  free : ∀ x ∈ c.free, X.mg x = none
  gi : ∀ p ∈ c.gi, ∃ t, X.mg p.1 = some (.int p.2 t)
  gs : ∀ p ∈ c.gs, ∃ t, X.mg p.1 = some (.str p.2 t)
  fns : ∀ d ∈ c.fs, ∃ f fd, X.mg d.name = some (.ref f) ∧ FnOk X.prog X.w X.K X.mg X.base (L2.CX X.prog X.w) k f fd (d.N.take d.np) (spV c.fs cv k d.name) ∧ PySem.W.keepIn X.K (.ref f) = true ∧ Binds X.K fd (d.N.take d.np) []
  tk : Takes X (wx cv W)
  pass : PassesOwn (model X.prog X.w) X.A X.env X.xe
def CC.kind (c : CC) (x : Str) : Option NameKind := c.sc.names.lookup x
def notDbg (x : Str) : Bool := !(x == ("__debug__" : Str)) && !(x == ("__classdict__" : Str))
def okVar (c : CC) (i : Nat) (x : Str) : Bool := decide (c.N[i]? = some x) && (match c.kind x with
  | some .local => true | some .cell => true | some .free => true | _ => false) && notDbg x
def okSto (c : CC) (i : Nat) (x : Str) : Bool := decide (c.N[i]? = some x) && (match c.kind x with
  | some .local => true | some .cell => c.top || decide (x ∈ c.cells) | _ => false)
def okGl (c : CC) (x : Str) : Bool := decide (c.kind x = some .globalImplicit)
/-- a built-in's name -/
def okB (c : CC) (x : Str) : Bool := okGl c x && decide (x ∈ c.free)
theorem okVar_ok {X : Cx} {c : CC} {k : Nat} {cv : Str → Value} {W : WC} (O : Ok X c k cv W) {i : Nat} {x : Str} (h : okVar c i x = true) :
    X.N[i]? = some x ∧ Vis X.env.scope x ∧ (x == ("__debug__" : Str)) = false ∧ (x == ("__classdict__" : Str)) = false := by
  unfold okVar notDbg at h
  simp only [Bool.and_eq_true, decide_eq_true_eq, Bool.not_eq_true'] at h
  obtain ⟨⟨h1, h2⟩, h3, h4⟩ := h
  refine ⟨by rw [O.n]; exact h1, ?_, h3, h4⟩
  unfold Vis
  rw [O.sc]
  unfold CC.kind at h2
  split at h2 <;> first | (rename_i q; rw [q]; simp) | cases h2
theorem okSto_ok {X : Cx} {c : CC} {k : Nat} {cv : Str → Value} {W : WC} (O : Ok X c k cv W) {i : Nat} {x : Str} (h : okSto c i x = true) : StoOk X i x := by
  unfold okSto at h
  simp only [Bool.and_eq_true, decide_eq_true_eq] at h
  obtain ⟨h1, h2⟩ := h
  refine ⟨by rw [O.n]; exact h1, ?_⟩
  unfold L2.Loc
  rw [O.sc]
  unfold CC.kind at h2
  split at h2
  · rename_i q; exact ⟨.inl q, .inr q⟩
  · rename_i q
    refine ⟨.inr q, .inl ?_⟩
    simp only [Bool.or_eq_true, decide_eq_true_eq] at h2
    exact h2.elim (fun h => O.top h x) (O.blk x)
  · cases h2
theorem okGl_ok {X : Cx} {c : CC} {k : Nat} {cv : Str → Value} {W : WC} (O : Ok X c k cv W) {x : Str} (h : okGl c x = true) : Gl X x := by
  unfold okGl CC.kind at h
  unfold Gl Env.kindOf
  rw [O.sc]
  exact of_decide_eq_true h
theorem okB_ok {X : Cx} {c : CC} {k : Nat} {cv : Str → Value} {W : WC} (O : Ok X c k cv W) {x : Str} (h : okB c x = true) : Gl X x ∧ X.mg x = none := by
  unfold okB at h
  simp only [Bool.and_eq_true, decide_eq_true_eq] at h
  exact ⟨okGl_ok O h.1, O.free x h.2⟩
/-- targets -/
def okG (c : CC) : G → Expr → Bool
  | .nm i, e => (match vName e with
    | some x => okSto c i x
    | none => false)
  | .two a b, e => (match vTuple e with
    | some [x, y] => plX x && plX y && okG c a x && okG c b y
    | _ => false)
  | .thr a b d, e => (match vTuple e with
    | some [x, y, z] => plX x && plX y && plX z && okG c a x && okG c b y && okG c d z
    | _ => false)
  | .fou a b d g, e => (match vTuple e with
    | some [x, y, z, u] => plX x && plX y && plX z && plX u && okG c a x && okG c b y && okG c d z && okG c g u
    | _ => false)
/-- a comprehension's block -/
def CC.blk (c : CC) (scope : Scope) : CC := { c with sc := relS scope c.sc, top := false, cells := (scope.names.filter fun y => decide (scope.names.lookup y.1 = some .cell)).map (·.1) }
def ownP (N : List Str) (own : List Nat) : List (Str × Nat) := own.map fun i => (N.getD i (Str.ofString ""), i)
mutual
def okE (c : CC) : E → Expr → Bool
  | .non, e => decide (vConst e = some .none)
  | .bl b, e => decide (vConst e = some (.bool b))
  | .int i, e => decide (vConst e = some (.int i))
  | .str s, e => decide (vConst e = some (.str s))
  | .var i, e => (match vName e with
    | some x => okVar c i x
    | none => false)
  | .mov i, e => (match vName e with
    | some x => okVar c i x
    | none => false)
  | .gint x i, e => decide (vName e = some x) && okGl c x && decide ((x, i) ∈ c.gi) && notDbg x
  | .gstr x s, e => decide (vName e = some x) && okGl c x && decide ((x, s) ∈ c.gs) && notDbg x
  | .op o ma mb, e => (match vBin e with
    | some (a, op, b) => decide (op = opC o) && okE c ma a && okE c mb b
    | none => false)
  | .neg ma, e => (match vUn e with
    | some (.USub, a) => okE c ma a
    | _ => false)
  | .cmp o ma mb, e => (match vCmp e with
    | some (a, [p], [b]) => decide (p = cmC o) && okE c ma a && okE c mb b
    | _ => false)
  | .ch2 o o2 ma mb mc, e => (match vCmp e with
    | some (a, [p, p2], [b, d]) => decide (p = cmC o) && decide (p2 = cmC o2) && okE c ma a && okE c mb b && okE c mc d
    | _ => false)
  | .ch3 o o2 o3 ma mb mc md, e => (match vCmp e with
    | some (a, [p, p2, p3], [b, d, g]) => decide (p = cmC o) && decide (p2 = cmC o2) && decide (p3 = cmC o3) && okE c ma a && okE c mb b && okE c mc d && okE c md g
    | _ => false)
  | .isc p ma mb, e => (match vCmp e with
    | some (a, [q], [b]) => decide (q = isC p) && okE c ma a && okE c mb b
    | _ => false)
  | .and ma mb, e => (match vBool e with
    | some (.And, [a, b], _) => !isIf a && !isIf b && okE c ma a && okE c mb b
    | some (.And, a :: b :: d :: r, p) => !isIf a && okE c ma a && okE c mb (.BoolOp .And (b :: d :: r) p)
    | _ => false)
  | .or ma mb, e => (match vBool e with
    | some (.Or, [a, b], _) => !isIf a && !isIf b && okE c ma a && okE c mb b
    | some (.Or, a :: b :: d :: r, p) => !isIf a && okE c ma a && okE c mb (.BoolOp .Or (b :: d :: r) p)
    | _ => false)
  | .not ma, e => (match vUn e with
    | some (.Not, a) => !isIf a && okE c ma a
    | _ => false)
  | .ite mc ma mb, e => (match vIf e with
    | some (d, a, b) => !isIf d && okE c mc d && okE c ma a && okE c mb b
    | none => false)
  | .sub ma mb, e => (match vSub e with
    | some (a, b) => okE c ma a && okE c mb b
    | none => false)
  | .slc ma ml mh, e => (match vSub e with
    | some (a, s) => (match vSlice s with
      | some (l, h, none) => okE c ma a && okO c ml l && okO c mh h
      | _ => false)
    | none => false)
  | .lst ms, e => (match vList e with
    | some es => okEs c ms es
    | none => false)
  | .tup ms, e => (match vTuple e with
    | some es => okEs c ms es
    | none => false)
  | .dnewK, e => (match vDict e with
    | some ([], []) => true
    | _ => false)
  | .dnewT, _ => false
  | .disp ms, e => (match vDict e with
    | some (ks, vs) => !ks.isEmpty && decide (ks.length ≤ 15) && okDs c ms ks vs
    | none => false)
  | .comp g own it mt me, e => (match vComp e with
    | some (elt, tg, iter, ifs, scope) => okI c it tg iter && blkC c.N c.sc scope (ownP c.N own) && okG (c.blk scope) g tg && okT (c.blk scope) mt ifs && okE (c.blk scope) me elt && (g.slots.all fun j => decide (j ∈ own))
    | none => false)
  | .call x ms, e => (match vCallN e with
    | some (y, a :: es) => decide (y = x) && okGl c x && (c.fs.any fun d => decide (d.name = x)) && notDbg x && okEs c ms (a :: es)
    | _ => false)
  | .b1 .rev ma, e => (match vSub e with
    | some (a, s) => (match vSlice s with
      | some (none, none, some st) => (match vUn st with
        | some (.USub, t) => decide (vConst t = some (.int 1)) && okE c ma a
        | _ => false)
      | _ => false)
    | none => false)
  | .b1 .sortedR ma, e => (match vCallW e with
    | some (y, a, w, k) => decide (y = "sorted") && decide (w = "reverse") && decide (k = .bool true) && okB c "sorted" && okE c ma a
    | none => false)
  | .b1 .sortedSet ma, e => (match vCallN e with
    | some (y, [r]) => (match vCallN r with
      | some (z, [a]) => decide (y = "sorted") && decide (z = "set") && okB c "sorted" && okB c "set" && okE c ma a
      | _ => false)
    | _ => false)
  | .b1 .lenSet ma, e => (match vCallN e with
    | some (y, [r]) => (match vCallN r with
      | some (z, [a]) => decide (y = "len") && decide (z = "set") && okB c "len" && okB c "set" && okE c ma a
      | _ => false)
    | _ => false)
  | .b1 b ma, e => (match vCallN e, b1N b with
    | some (y, [a]), some n => decide (y = Str.ofString n.2) && okB c y && okE c ma a
    | _, _ => false)
  | .b2 .min ma mb, e => (match vCallN e with
    | some (y, [a, b]) => decide (y = Str.ofString "min") && okB c y && okE c ma a && okE c mb b
    | _ => false)
  | .b2 .max ma mb, e => (match vCallN e with
    | some (y, [a, b]) => decide (y = Str.ofString "max") && okB c y && okE c ma a && okE c mb b
    | _ => false)
  | .b2 .index ma mb, e => (match vCallM e with
    | some (o, m, [a]) => decide (m = Str.ofString "index") && naB o && okE c ma o && okE c mb a
    | _ => false)
  | .b2 .count ma mb, e => (match vCallM e with
    | some (o, m, [a]) => decide (m = Str.ofString "count") && naB o && okE c ma o && okE c mb a
    | _ => false)
  | .b2 .join ma mb, e => (match vCallM e with
    | some (o, m, [a]) => decide (m = Str.ofString "join") && naB o && okE c ma o && okE c mb a
    | _ => false)
  | .b2 _ _ _, _ => false
  | .b3 .get ma mb mc, e => (match vCallM e with
    | some (o, m, [a, b]) => decide (m = Str.ofString "get") && naB o && okE c ma o && okE c mb a && okE c mc b
    | _ => false)
  | .rngL ms, e => (match vCallN e with
    | some (y, [r]) => (match vCallN r with
      | some (z, es) => decide (y = Str.ofString "list") && okB c y && decide (z = Str.ofString "range") && okB c z && (decide (es.length = 1) || decide (es.length = 2)) && okEs c ms es
      | none => false)
    | _ => false)
  | .rngT ms, e => (match vCallN e with
    | some (y, [r]) => (match vCallN r with
      | some (z, es) => decide (y = Str.ofString "tuple") && okB c y && decide (z = Str.ofString "range") && okB c z && (decide (es.length = 1) || decide (es.length = 2)) && okEs c ms es
      | none => false)
    | _ => false)
  | .pop i mk, e => (match vCallM e with
    | some (o, m, es) => (match vName o with
      | some x => decide (m = Str.ofString "pop") && okVar c i x && okP c mk es
      | none => false)
    | _ => false)
  | .isin ma t, e => (match vCallN e with
    | some (y, [a, b]) => (match vName b with
      | some z => decide (y = Str.ofString "isinstance") && okB c y && decide (z = Str.ofString (tyN t)) && okB c z && okE c ma a
      | none => false)
    | _ => false)
  | .bad, e => plX e
/-- an optional part of a slice -/
def okO (c : CC) : Eo → Option Expr → Bool
  | .no, none => true
  | .so m, some e => okE c m e
  | _, _ => false
/-- a comprehension's test -/
def okT (c : CC) : Eo → List Expr → Bool
  | .no, [] => true
  | .so m, [e] => !isIf e && okE c m e
  | _, _ => false
/-- pop's argument -/
def okP (c : CC) : Eo → List Expr → Bool
  | .no, [] => true
  | .so m, [e] => okE c m e
  | _, _ => false
def okEs (c : CC) : Es → List Expr → Bool
  | .nil, [] => true
  | .cons m r, e :: es => okE c m e && okEs c r es
  | _, _ => false
def okDs (c : CC) : Es → List (Option Expr) → List Expr → Bool
  | .nil, [], [] => true
  | .cons mk (.cons mv r), some k :: ks, v :: vs => okE c mk k && okE c mv v && okDs c r ks vs
  | _, _, _ => false
def okI (c : CC) : It → Expr → Expr → Bool
  | .val m, _, e => okE c m e
  | .hid i, _, e => (match vName e with
    | some x => okVar c i x
    | none => false)
  | .rng ms, _, e => (match vCallN e with
    | some (y, es) => decide (y = Str.ofString "range") && okB c y && (decide (es.length = 1) || decide (es.length = 2) || decide (es.length = 3)) && okEs c ms es
    | none => false)
  | .enu m, tg, e => (match vCallN e, vTuple tg with
    | some (y, [a]), some _ => decide (y = Str.ofString "enumerate") && okB c y && okE c m a
    | _, _ => false)
  | .ehid _, _, _ => false
  | .zip ma mb, tg, e => (match vCallN e, vTuple tg with
    | some (y, [a, b]), some _ => decide (y = Str.ofString "zip") && okB c y && okE c ma a && okE c mb b
    | _, _ => false)
  | .rvd m, _, e => (match vCallN e with
    | some (y, [a]) => decide (y = Str.ofString "reversed") && okB c y && okE c m a
    | _ => false)
end
end VI
namespace VI
open PySem PySem.Spec PyProof.Rows L2
theorem as_false {e : Expr} {es : List Expr} {env : PySem.Env} (h : plX e = true) : (assignEach (e :: es) env).map (·.2) = assign e env :: (assignEach es env).map (·.2) := by
  cases e <;> first | rfl | cases h
theorem as_find {env : PySem.Env} : ∀ {es : List Expr}, (∀ e ∈ es, plX e = true) → (assignEach es env).length = es.length ∧ (assignEach es env).findIdx? (·.1) = none
  | [], _ => ⟨rfl, rfl⟩
  | e :: es, h => by
    have he := h e List.mem_cons_self
    obtain ⟨h1, h2⟩ := as_find (env := env) (es := es) fun y hy => h y (List.mem_cons_of_mem _ hy)
    have eq : assignEach (e :: es) env = (false, assign e env) :: assignEach es env := by cases e <;> first | rfl | cases he
    rw [eq]
    refine ⟨by rw [List.length_cons, h1, List.length_cons], ?_⟩
    rw [List.findIdx?_cons, h2]; rfl
section
variable {X : Cx} {c : CC} {k : Nat} {cv : Str → Value} {W : WC}
theorem okG_ok (O : Ok X c k cv W) : ∀ (g : G) (e : Expr), okG c g e = true → PG X e (tGr X.K g)
  | .nm i, e, h => by
    rw [okG] at h
    split at h
    · rename_i x hx
      obtain ⟨p, rfl⟩ := vName_ok hx
      exact snd_gnm O.nd (okSto_ok O h)
    · cases h
  | .two a b, e, h => by
    rw [okG] at h
    split at h
    · rename_i x y hx
      obtain ⟨j, p, rfl⟩ := vTuple_ok hx
      simp only [Bool.and_eq_true] at h
      obtain ⟨⟨⟨p1, p2⟩, h1⟩, h2⟩ := h
      have pl : ∀ e ∈ [x, y], plX e = true := fun e he => by
        simp only [List.mem_cons, List.not_mem_nil, or_false] at he
        rcases he with rfl | rfl <;> assumption
      exact pg_seq O.calm (pgs_cons (okG_ok O a x h1) (pgs_cons (okG_ok O b y h2) pgs_nil (as_false p2)) (as_false p1)) (as_find pl).1 (as_find pl).2
    · cases h
  | .thr a b d, e, h => by
    rw [okG] at h
    split at h
    · rename_i x y z hx
      obtain ⟨j, p, rfl⟩ := vTuple_ok hx
      simp only [Bool.and_eq_true] at h
      obtain ⟨⟨⟨⟨⟨p1, p2⟩, p3⟩, h1⟩, h2⟩, h3⟩ := h
      have pl : ∀ e ∈ [x, y, z], plX e = true := fun e he => by
        simp only [List.mem_cons, List.not_mem_nil, or_false] at he
        rcases he with rfl | rfl | rfl <;> assumption
      exact pg_seq O.calm (pgs_cons (okG_ok O a x h1) (pgs_cons (okG_ok O b y h2) (pgs_cons (okG_ok O d z h3) pgs_nil (as_false p3)) (as_false p2)) (as_false p1)) (as_find pl).1 (as_find pl).2
    · cases h
  | .fou a b d g, e, h => by
    rw [okG] at h
    split at h
    · rename_i x y z u hx
      obtain ⟨j, p, rfl⟩ := vTuple_ok hx
      simp only [Bool.and_eq_true] at h
      obtain ⟨⟨⟨⟨⟨⟨⟨p1, p2⟩, p3⟩, p4⟩, h1⟩, h2⟩, h3⟩, h4⟩ := h
      have pl : ∀ e ∈ [x, y, z, u], plX e = true := fun e he => by
        simp only [List.mem_cons, List.not_mem_nil, or_false] at he
        rcases he with rfl | rfl | rfl | rfl <;> assumption
      exact pg_seq O.calm (pgs_cons (okG_ok O a x h1) (pgs_cons (okG_ok O b y h2) (pgs_cons (okG_ok O d z h3) (pgs_cons (okG_ok O g u h4) pgs_nil (as_false p4)) (as_false p3)) (as_false p2)) (as_false p1)) (as_find pl).1 (as_find pl).2
    · cases h
/-- the context of a comprehension's block -/
theorem Ok.inB (O : Ok X c k cv W) (scope : Scope) (s : Shared) (H : Hp) (C : Addr) (cl : List (Str × Addr)) (fp : List Addr) : Ok (X.blk s H scope (compEnvC scope cl C X.env) fp) (c.blk scope) k cv WF where
  n := O.n
  nd := O.nd
  sc := by
    show relS scope X.env.scope = relS scope c.sc
    rw [O.sc]
  calm := O.calm
  room := O.room
  top := fun h => by cases h
  blk := fun x hx => by
    obtain ⟨y, hy, rfl⟩ := List.mem_map.mp hx
    have := (List.mem_filter.mp hy).2
    show (scope.names.lookup y.1 == some .cell) = true
    rw [of_decide_eq_true this]; rfl
  free := O.free
  gi := O.gi
  gs := O.gs
  fns := O.fns
  tk := fun u s' x => by
    obtain ⟨a, B, sI, pins, σ, H, cls, d, e, I, nb, up, sky, na, os, ag, w⟩ := x
    obtain ⟨c, _, w⟩ := w
    exact w.elim
  pass := PassesOwn.never
end
theorem snd_badE {X : Cx} {cs : CS} {W : WC} {e : Expr} (h : plX e = true) : Snd X cs W .bad e where
  pl := h
  pe := ⟨fun pins s σ H Q I q => by
    obtain ⟨e, P, F, S, z⟩ := q
    rw [evalE] at z
    exact z.elim⟩
  pt := fun _ => ⟨fun pins s σ H Q I q => by
    obtain ⟨e, P, F, S, z⟩ := q
    rw [evalE] at z
    exact z.elim⟩
  pw := fun _ => ⟨fun wh pins s σ H Q I q => by
    obtain ⟨e, P, F, S, z⟩ := q
    rw [evalE] at z
    exact z.elim⟩
theorem ownP_slots (N : List Str) (own : List Nat) : (ownP N own).map (·.2) = own := by
  unfold ownP
  rw [List.map_map]
  exact List.map_id _
section
variable {k : Nat} {cv : Str → Value}
mutual
theorem okE_ok : ∀ (m : E) (c : CC) (X : Cx) (W : WC) (e : Expr), Ok X c k cv W → okE c m e = true → Snd X (csOf c.fs k) W m e
  | .non, c, X, W, e, O, h => by
    rw [okE] at h
    obtain ⟨j, p, rfl⟩ := vConst_ok (of_decide_eq_true h)
    exact snd_non
  | .bl b, c, X, W, e, O, h => by
    rw [okE] at h
    obtain ⟨j, p, rfl⟩ := vConst_ok (of_decide_eq_true h)
    exact snd_bl
  | .int i, c, X, W, e, O, h => by
    rw [okE] at h
    obtain ⟨j, p, rfl⟩ := vConst_ok (of_decide_eq_true h)
    exact snd_int
  | .str i, c, X, W, e, O, h => by
    rw [okE] at h
    obtain ⟨j, p, rfl⟩ := vConst_ok (of_decide_eq_true h)
    exact snd_str
  | .var i, c, X, W, e, O, h => by
    rw [okE] at h
    split at h
    · rename_i x hx
      obtain ⟨p, rfl⟩ := vName_ok hx
      obtain ⟨h1, h2, h3, h4⟩ := okVar_ok O h
      exact snd_var h1 h2 h3 h4
    · cases h
  | .mov i, c, X, W, e, O, h => by
    rw [okE] at h
    split at h
    · rename_i x hx
      obtain ⟨p, rfl⟩ := vName_ok hx
      obtain ⟨h1, h2, h3, h4⟩ := okVar_ok O h
      exact snd_mov h1 h2 h3 h4
    · cases h
  | .gint x i, c, X, W, e, O, h => by
    rw [okE] at h
    unfold notDbg at h
    simp only [Bool.and_eq_true, decide_eq_true_eq, Bool.not_eq_true', Bool.or_eq_true] at h
    obtain ⟨⟨⟨h1, h2⟩, h3⟩, h4, h5⟩ := h
    obtain ⟨p, rfl⟩ := vName_ok h1
    obtain ⟨t, ht⟩ := O.gi _ h3
    exact snd_gint (okGl_ok O h2) ht ⟨t, rfl⟩ h4
  | .gstr x i, c, X, W, e, O, h => by
    rw [okE] at h
    unfold notDbg at h
    simp only [Bool.and_eq_true, decide_eq_true_eq, Bool.not_eq_true', Bool.or_eq_true] at h
    obtain ⟨⟨⟨h1, h2⟩, h3⟩, h4, h5⟩ := h
    obtain ⟨p, rfl⟩ := vName_ok h1
    obtain ⟨t, ht⟩ := O.gs _ h3
    exact snd_gstr (okGl_ok O h2) ht ⟨t, rfl⟩ h4
  | .op o ma mb, c, X, W, e, O, h => by
    rw [okE] at h
    split at h
    · rename_i a op b hx
      obtain ⟨p, rfl⟩ := vBin_ok hx
      simp only [Bool.and_eq_true, decide_eq_true_eq, Bool.not_eq_true', Bool.or_eq_true] at h
      obtain ⟨⟨rfl, h1⟩, h2⟩ := h
      exact snd_op (okE_ok ma c X W a O h1) (okE_ok mb c X W b O h2)
    · cases h
  | .neg ma, c, X, W, e, O, h => by
    rw [okE] at h
    split at h
    · rename_i a hx
      obtain ⟨p, rfl⟩ := vUn_ok hx
      exact snd_neg (okE_ok ma c X W a O h)
    · cases h
  | .cmp o ma mb, c, X, W, e, O, h => by
    rw [okE] at h
    split at h
    · rename_i a q b hx
      obtain ⟨p, rfl⟩ := vCmp_ok hx
      simp only [Bool.and_eq_true, decide_eq_true_eq, Bool.not_eq_true', Bool.or_eq_true] at h
      obtain ⟨⟨rfl, h1⟩, h2⟩ := h
      exact snd_cmp O.room (okE_ok ma c X W a O h1) (okE_ok mb c X W b O h2)
    · cases h
  | .ch2 o o2 ma mb mc, c, X, W, e, O, h => by
    rw [okE] at h
    split at h
    · rename_i a q q2 b d hx
      obtain ⟨p, rfl⟩ := vCmp_ok hx
      simp only [Bool.and_eq_true, decide_eq_true_eq, Bool.not_eq_true', Bool.or_eq_true] at h
      obtain ⟨⟨⟨⟨rfl, rfl⟩, h1⟩, h2⟩, h3⟩ := h
      exact snd_ch2 O.room (okE_ok ma c X W a O h1) (okE_ok mb c X W b O h2) (okE_ok mc c X W d O h3)
    · cases h
  | .ch3 o o2 o3 ma mb mc md, c, X, W, e, O, h => by
    rw [okE] at h
    split at h
    · rename_i a q q2 q3 b d g hx
      obtain ⟨p, rfl⟩ := vCmp_ok hx
      simp only [Bool.and_eq_true, decide_eq_true_eq, Bool.not_eq_true', Bool.or_eq_true] at h
      obtain ⟨⟨⟨⟨⟨⟨rfl, rfl⟩, rfl⟩, h1⟩, h2⟩, h3⟩, h4⟩ := h
      exact snd_ch3 O.room (okE_ok ma c X W a O h1) (okE_ok mb c X W b O h2) (okE_ok mc c X W d O h3) (okE_ok md c X W g O h4)
    · cases h
  | .isc q ma mb, c, X, W, e, O, h => by
    rw [okE] at h
    split at h
    · rename_i a q b hx
      obtain ⟨p, rfl⟩ := vCmp_ok hx
      simp only [Bool.and_eq_true, decide_eq_true_eq, Bool.not_eq_true', Bool.or_eq_true] at h
      obtain ⟨⟨rfl, h1⟩, h2⟩ := h
      exact snd_isc (okE_ok ma c X W a O h1) (okE_ok mb c X W b O h2)
    · cases h
  | .and ma mb, c, X, W, e, O, h => by
    rw [okE] at h
    split at h
    · rename_i a b p hx
      obtain rfl := vBool_ok hx
      simp only [Bool.and_eq_true, decide_eq_true_eq, Bool.not_eq_true', Bool.or_eq_true] at h
      obtain ⟨⟨⟨i1, i2⟩, h1⟩, h2⟩ := h
      exact snd_and2 (okE_ok ma c X W a O h1) (okE_ok mb c X W b O h2) i1 i2
    · rename_i a b d r p hx
      obtain rfl := vBool_ok hx
      simp only [Bool.and_eq_true, decide_eq_true_eq, Bool.not_eq_true', Bool.or_eq_true] at h
      obtain ⟨⟨i1, h1⟩, h2⟩ := h
      exact snd_and (okE_ok ma c X W a O h1) (okE_ok mb c X W _ O h2) i1
    · cases h
  | .or ma mb, c, X, W, e, O, h => by
    rw [okE] at h
    split at h
    · rename_i a b p hx
      obtain rfl := vBool_ok hx
      simp only [Bool.and_eq_true, decide_eq_true_eq, Bool.not_eq_true', Bool.or_eq_true] at h
      obtain ⟨⟨⟨i1, i2⟩, h1⟩, h2⟩ := h
      exact snd_or2 (okE_ok ma c X W a O h1) (okE_ok mb c X W b O h2) i1 i2
    · rename_i a b d r p hx
      obtain rfl := vBool_ok hx
      simp only [Bool.and_eq_true, decide_eq_true_eq, Bool.not_eq_true', Bool.or_eq_true] at h
      obtain ⟨⟨i1, h1⟩, h2⟩ := h
      exact snd_or (okE_ok ma c X W a O h1) (okE_ok mb c X W _ O h2) i1
    · cases h
  | .not ma, c, X, W, e, O, h => by
    rw [okE] at h
    split at h
    · rename_i a hx
      obtain ⟨p, rfl⟩ := vUn_ok hx
      simp only [Bool.and_eq_true, decide_eq_true_eq, Bool.not_eq_true', Bool.or_eq_true] at h
      exact snd_not (okE_ok ma c X W a O h.2) h.1
    · cases h
  | .ite mc ma mb, c, X, W, e, O, h => by
    rw [okE] at h
    split at h
    · rename_i d a b hx
      obtain ⟨p, rfl⟩ := vIf_ok hx
      simp only [Bool.and_eq_true, decide_eq_true_eq, Bool.not_eq_true', Bool.or_eq_true] at h
      obtain ⟨⟨⟨i1, h1⟩, h2⟩, h3⟩ := h
      exact snd_ite (okE_ok mc c X W d O h1) (okE_ok ma c X W a O h2) (okE_ok mb c X W b O h3) i1
    · cases h
  | .sub ma mb, c, X, W, e, O, h => by
    rw [okE] at h
    split at h
    · rename_i a b hx
      obtain ⟨p, rfl⟩ := vSub_ok hx
      simp only [Bool.and_eq_true, decide_eq_true_eq, Bool.not_eq_true', Bool.or_eq_true] at h
      exact snd_sub O.room (okE_ok ma c X W a O h.1) (okE_ok mb c X W b O h.2)
    · cases h
  | .slc ma ml mh, c, X, W, e, O, h => by
    rw [okE] at h
    split at h
    · rename_i a s hx
      obtain ⟨p, rfl⟩ := vSub_ok hx
      split at h
      · rename_i l g hs
        obtain ⟨p2, rfl⟩ := vSlice_ok hs
        simp only [Bool.and_eq_true, decide_eq_true_eq, Bool.not_eq_true', Bool.or_eq_true] at h
        obtain ⟨⟨h1, h2⟩, h3⟩ := h
        exact snd_slc (okE_ok ma c X W a O h1) (okO_ok ml c X W l O h2) (okO_ok mh c X W g O h3)
      · cases h
    · cases h
  | .lst ms, c, X, W, e, O, h => by
    rw [okE] at h
    split at h
    · rename_i es hx
      obtain ⟨p, rfl⟩ := vList_ok hx
      exact snd_lst (okEs_ok ms c X W es O h)
    · cases h
  | .tup ms, c, X, W, e, O, h => by
    rw [okE] at h
    split at h
    · rename_i es hx
      obtain ⟨j, p, rfl⟩ := vTuple_ok hx
      exact snd_tup (okEs_ok ms c X W es O h)
    · cases h
  | .dnewK, c, X, W, e, O, h => by
    rw [okE] at h
    split at h
    · rename_i hx
      obtain ⟨p, rfl⟩ := vDict_ok hx
      exact snd_dnewK
    · cases h
  | .dnewT, c, X, W, e, O, h => by rw [okE] at h; cases h
  | .disp ms, c, X, W, e, O, h => by
    rw [okE] at h
    split at h
    · rename_i ks vs hx
      obtain ⟨p, rfl⟩ := vDict_ok hx
      simp only [Bool.and_eq_true, Bool.not_eq_true', decide_eq_true_eq] at h
      obtain ⟨⟨h1, h2⟩, h3⟩ := h
      exact snd_disp (okDs_ok ms c X W ks vs p O h3) (by intro z; rw [z] at h1; cases h1) h2
    · cases h
  | .comp g own it mt me, c, X, W, e, O, h => by
    rw [okE] at h
    split at h
    · rename_i elt tg iter ifs scope hx
      obtain ⟨p, rfl⟩ := vComp_ok hx
      simp only [Bool.and_eq_true, decide_eq_true_eq, Bool.not_eq_true', Bool.or_eq_true] at h
      obtain ⟨⟨⟨⟨⟨h1, h2⟩, h3⟩, h4⟩, h5⟩, h6⟩ := h
      have h6' : ∀ j ∈ g.slots, j ∈ own := fun j hj => of_decide_eq_true (List.all_eq_true.mp h6 j hj)
      have := snd_comp (ownP := ownP c.N own) (pos := p) O.calm O.nd (okI_ok it c X W tg iter O h1) (by rw [O.n, O.sc]; exact blkOk_by h2)
        (fun s H C cl fp => okG_ok (O.inB scope s H C cl fp) g tg h3) (fun s H C cl fp => okT_ok mt (c.blk scope) _ WF ifs (O.inB scope s H C cl fp) h4)
        (fun s H C cl fp => (okE_ok me (c.blk scope) _ WF elt (O.inB scope s H C cl fp) h5).pe) (by rw [ownP_slots]; exact h6')
      rwa [ownP_slots] at this
    · cases h
  | .call x ms, c, X, W, e, O, h => by
    rw [okE] at h
    split at h
    · rename_i y a es hx
      obtain ⟨p, p2, rfl⟩ := vCallN_ok hx
      unfold notDbg at h
      simp only [Bool.and_eq_true, decide_eq_true_eq, Bool.not_eq_true', Bool.or_eq_true] at h
      obtain ⟨⟨⟨⟨rfl, h1⟩, h2⟩, h3, h4⟩, h5⟩ := h
      obtain ⟨d, hd, rfl⟩ : ∃ d ∈ c.fs, d.name = y := by
        obtain ⟨d, hd, e⟩ := List.any_eq_true.mp h2
        exact ⟨d, hd, of_decide_eq_true e⟩
      obtain ⟨f, fd, f1, f2, f3, f4⟩ := O.fns d hd
      exact snd_call f2 O.room (okGl_ok O h1) f1 f3 f4 O.tk (okEs_ok ms c X W _ O h5) h3
    · cases h
  | .b1 .rev ma, c, X, W, e, O, h => by
    rw [okE] at h
    split at h
    · rename_i a s hx
      obtain ⟨p, rfl⟩ := vSub_ok hx
      split at h
      · rename_i st hs
        obtain ⟨p2, rfl⟩ := vSlice_ok hs
        split at h
        · rename_i t ht
          obtain ⟨p3, rfl⟩ := vUn_ok ht
          simp only [Bool.and_eq_true, decide_eq_true_eq, Bool.not_eq_true', Bool.or_eq_true] at h
          obtain ⟨j, p4, rfl⟩ := vConst_ok h.1
          exact snd_rev (okE_ok ma c X W a O h.2)
        · cases h
      · cases h
    · cases h
  | .b2 .min ma mb, c, X, W, e, O, h => by
    rw [okE] at h
    split at h
    · rename_i y a b hx
      obtain ⟨p, p2, rfl⟩ := vCallN_ok hx
      simp only [Bool.and_eq_true, decide_eq_true_eq, Bool.not_eq_true', Bool.or_eq_true] at h
      obtain ⟨⟨⟨rfl, h1⟩, h2⟩, h3⟩ := h
      obtain ⟨g1, m1⟩ := okB_ok O h1
      exact snd_mm (mx := false) O.calm g1 m1 (okE_ok ma c X W a O h2) (okE_ok mb c X W b O h3)
    · cases h
  | .b2 .max ma mb, c, X, W, e, O, h => by
    rw [okE] at h
    split at h
    · rename_i y a b hx
      obtain ⟨p, p2, rfl⟩ := vCallN_ok hx
      simp only [Bool.and_eq_true, decide_eq_true_eq, Bool.not_eq_true', Bool.or_eq_true] at h
      obtain ⟨⟨⟨rfl, h1⟩, h2⟩, h3⟩ := h
      obtain ⟨g1, m1⟩ := okB_ok O h1
      exact snd_mm (mx := true) O.calm g1 m1 (okE_ok ma c X W a O h2) (okE_ok mb c X W b O h3)
    · cases h
  | .b2 .index ma mb, c, X, W, e, O, h => by
    rw [okE] at h
    split at h
    · rename_i o m a hx
      obtain ⟨p, p2, rfl, hl⟩ := vCallM_ok hx
      simp only [Bool.and_eq_true, decide_eq_true_eq, Bool.not_eq_true', Bool.or_eq_true] at h
      obtain ⟨⟨⟨rfl, h1⟩, h2⟩, h3⟩ := h
      exact snd_index O.room (okE_ok ma c X W o O h2) h1 (okE_ok mb c X W a O h3) hl
    · cases h
  | .b2 .join ma mb, c, X, W, e, O, h => by
    rw [okE] at h
    split at h
    · rename_i o m a hx
      obtain ⟨p, p2, rfl, hl⟩ := vCallM_ok hx
      simp only [Bool.and_eq_true, decide_eq_true_eq, Bool.not_eq_true', Bool.or_eq_true] at h
      obtain ⟨⟨⟨rfl, h1⟩, h2⟩, h3⟩ := h
      exact snd_join (okE_ok ma c X W o O h2) h1 (okE_ok mb c X W a O h3) hl
    · cases h
  | .b2 .count ma mb, c, X, W, e, O, h => by
    rw [okE] at h
    split at h
    · rename_i o m a hx
      obtain ⟨p, p2, rfl, hl⟩ := vCallM_ok hx
      simp only [Bool.and_eq_true, decide_eq_true_eq, Bool.not_eq_true', Bool.or_eq_true] at h
      obtain ⟨⟨⟨rfl, h1⟩, h2⟩, h3⟩ := h
      exact snd_count O.room (okE_ok ma c X W o O h2) h1 (okE_ok mb c X W a O h3) hl
    · cases h
  | .b2 .get ma mb, c, X, W, e, O, h => by rw [okE] at h <;> first | (cases h; done) | simp
  | .b3 .get ma mb mc, c, X, W, e, O, h => by
    rw [okE] at h
    split at h
    · rename_i o m a b hx
      obtain ⟨p, p2, rfl, hl⟩ := vCallM_ok hx
      simp only [Bool.and_eq_true, decide_eq_true_eq, Bool.not_eq_true', Bool.or_eq_true] at h
      obtain ⟨⟨⟨⟨rfl, h1⟩, h2⟩, h3⟩, h4⟩ := h
      exact snd_get O.room (okE_ok ma c X W o O h2) h1 (okE_ok mb c X W a O h3) (okE_ok mc c X W b O h4) hl
    · cases h
  | .rngL ms, c, X, W, e, O, h => by
    rw [okE] at h
    split at h
    · rename_i y r hx
      obtain ⟨p, p2, rfl⟩ := vCallN_ok hx
      split at h
      · rename_i z es hr
        obtain ⟨p3, p4, rfl⟩ := vCallN_ok hr
        simp only [Bool.and_eq_true, decide_eq_true_eq, Bool.not_eq_true', Bool.or_eq_true] at h
        obtain ⟨⟨⟨⟨⟨rfl, h1⟩, rfl⟩, h2⟩, hl⟩, h3⟩ := h
        obtain ⟨g1, m1⟩ := okB_ok O h1
        obtain ⟨g2, m2⟩ := okB_ok O h2
        match ms, es, hl, h3 with
        | .cons m1' .nil, [a], _, h3 =>
          rw [okEs] at h3; simp only [Bool.and_eq_true, decide_eq_true_eq, Bool.not_eq_true', Bool.or_eq_true] at h3
          exact snd_rngL1 O.calm g1 m1 g2 m2 (okE_ok m1' c X W a O h3.1)
        | .cons m1' (.cons m2' .nil), [a, b], _, h3 =>
          rw [okEs] at h3; simp only [Bool.and_eq_true, decide_eq_true_eq, Bool.not_eq_true', Bool.or_eq_true] at h3
          have h4 := h3.2
          rw [okEs] at h4; simp only [Bool.and_eq_true, decide_eq_true_eq, Bool.not_eq_true', Bool.or_eq_true] at h4
          exact snd_rngL2 O.calm g1 m1 g2 m2 (okE_ok m1' c X W a O h3.1) (okE_ok m2' c X W b O h4.1)
        | .nil, [], hl, _ => simp at hl
        | .nil, _ :: _, hl, h3 => simp [okEs] at h3
        | .cons _ _, [], hl, h3 => simp [okEs] at h3
        | .cons _ (.cons _ _), [_], hl, h3 => simp [okEs] at h3
        | .cons _ .nil, _ :: _ :: _, hl, h3 => simp [okEs] at h3
        | .cons _ (.cons _ (.cons _ _)), [_, _], hl, h3 => simp [okEs] at h3
        | .cons _ (.cons _ _), _ :: _ :: _ :: _, hl, h3 => simp at hl
      · cases h
    · cases h
  | .rngT ms, c, X, W, e, O, h => by
    rw [okE] at h
    split at h
    · rename_i y r hx
      obtain ⟨p, p2, rfl⟩ := vCallN_ok hx
      split at h
      · rename_i z es hr
        obtain ⟨p3, p4, rfl⟩ := vCallN_ok hr
        simp only [Bool.and_eq_true, decide_eq_true_eq, Bool.not_eq_true', Bool.or_eq_true] at h
        obtain ⟨⟨⟨⟨⟨rfl, h1⟩, rfl⟩, h2⟩, hl⟩, h3⟩ := h
        obtain ⟨g1, m1⟩ := okB_ok O h1
        obtain ⟨g2, m2⟩ := okB_ok O h2
        match ms, es, hl, h3 with
        | .cons m1' .nil, [a], _, h3 =>
          rw [okEs] at h3; simp only [Bool.and_eq_true, decide_eq_true_eq, Bool.not_eq_true', Bool.or_eq_true] at h3
          exact snd_rngT1 O.calm g1 m1 g2 m2 (okE_ok m1' c X W a O h3.1)
        | .cons m1' (.cons m2' .nil), [a, b], _, h3 =>
          rw [okEs] at h3; simp only [Bool.and_eq_true, decide_eq_true_eq, Bool.not_eq_true', Bool.or_eq_true] at h3
          have h4 := h3.2
          rw [okEs] at h4; simp only [Bool.and_eq_true, decide_eq_true_eq, Bool.not_eq_true', Bool.or_eq_true] at h4
          exact snd_rngT2 O.calm g1 m1 g2 m2 (okE_ok m1' c X W a O h3.1) (okE_ok m2' c X W b O h4.1)
        | .nil, [], hl, _ => simp at hl
        | .nil, _ :: _, hl, h3 => simp [okEs] at h3
        | .cons _ _, [], hl, h3 => simp [okEs] at h3
        | .cons _ (.cons _ _), [_], hl, h3 => simp [okEs] at h3
        | .cons _ .nil, _ :: _ :: _, hl, h3 => simp [okEs] at h3
        | .cons _ (.cons _ (.cons _ _)), [_, _], hl, h3 => simp [okEs] at h3
        | .cons _ (.cons _ _), _ :: _ :: _ :: _, hl, h3 => simp at hl
      · cases h
    · cases h
  | .pop i .no, c, X, W, e, O, h => by
    rw [okE] at h
    split at h
    · rename_i o m es hx
      obtain ⟨p, p2, rfl, hl⟩ := vCallM_ok hx
      split at h
      · rename_i x hn
        obtain ⟨p3, rfl⟩ := vName_ok hn
        simp only [Bool.and_eq_true, decide_eq_true_eq, Bool.not_eq_true', Bool.or_eq_true] at h
        obtain ⟨⟨rfl, h1⟩, h2⟩ := h
        obtain ⟨v1, v2, v3, v4⟩ := okVar_ok O h1
        cases es with
        | nil => exact snd_pop0 v1 v2 v3 v4 hl
        | cons _ _ => simp [okP] at h2
      · cases h
    · cases h
  | .pop i (.so mk), c, X, W, e, O, h => by
    rw [okE] at h
    split at h
    · rename_i o m es hx
      obtain ⟨p, p2, rfl, hl⟩ := vCallM_ok hx
      split at h
      · rename_i x hn
        obtain ⟨p3, rfl⟩ := vName_ok hn
        simp only [Bool.and_eq_true, decide_eq_true_eq, Bool.not_eq_true', Bool.or_eq_true] at h
        obtain ⟨⟨rfl, h1⟩, h2⟩ := h
        obtain ⟨v1, v2, v3, v4⟩ := okVar_ok O h1
        match es, h2 with
        | [a], h2 =>
          rw [okP] at h2
          exact snd_pop v1 v2 v3 v4 (okE_ok mk c X W a O h2) hl
        | [], h2 => simp [okP] at h2
        | _ :: _ :: _, h2 => simp [okP] at h2
      · cases h
    · cases h
  | .isin ma t, c, X, W, e, O, h => by
    rw [okE] at h
    split at h
    · rename_i y a b hx
      obtain ⟨p, p2, rfl⟩ := vCallN_ok hx
      split at h
      · rename_i z hz
        obtain ⟨p3, rfl⟩ := vName_ok hz
        simp only [Bool.and_eq_true, decide_eq_true_eq, Bool.not_eq_true', Bool.or_eq_true] at h
        obtain ⟨⟨⟨⟨rfl, h1⟩, rfl⟩, h2⟩, h3⟩ := h
        obtain ⟨g1, m1⟩ := okB_ok O h1
        obtain ⟨g2, m2⟩ := okB_ok O h2
        exact snd_isin g1 m1 g2 m2 (okE_ok ma c X W a O h3)
      · cases h
    · cases h
  | .bad, c, X, W, e, O, h => by
    rw [okE] at h
    exact snd_badE h
  | .b1 b ma, c, X, W, e, O, h => by
    by_cases hb : b = .rev
    · subst hb
      rw [okE] at h
      split at h
      · rename_i a s hx
        obtain ⟨p, rfl⟩ := vSub_ok hx
        split at h
        · rename_i st hs
          obtain ⟨p2, rfl⟩ := vSlice_ok hs
          split at h
          · rename_i t ht
            obtain ⟨p3, rfl⟩ := vUn_ok ht
            simp only [Bool.and_eq_true, decide_eq_true_eq, Bool.not_eq_true', Bool.or_eq_true] at h
            obtain ⟨j, p4, rfl⟩ := vConst_ok h.1
            exact snd_rev (okE_ok ma c X W a O h.2)
          · cases h
        · cases h
      · cases h
    by_cases hb2 : b = .sortedR
    · subst hb2
      rw [okE] at h
      split at h
      · rename_i y a w v hx
        obtain ⟨p, z, p2, p3, pos, rfl⟩ := vCallW_ok hx
        simp only [Bool.and_eq_true, decide_eq_true_eq] at h
        obtain ⟨⟨⟨⟨rfl, rfl⟩, rfl⟩, h1⟩, h2⟩ := h
        obtain ⟨g1, m1⟩ := okB_ok O h1
        exact snd_sortR O.room g1 m1 (okE_ok ma c X W a O h2)
      · cases h
    by_cases hb3 : b = .sortedSet
    · subst hb3
      rw [okE] at h
      split at h
      · rename_i y r hx
        obtain ⟨p, p2, rfl⟩ := vCallN_ok hx
        split at h
        · rename_i z a hy
          obtain ⟨p3, p4, rfl⟩ := vCallN_ok hy
          simp only [Bool.and_eq_true, decide_eq_true_eq] at h
          obtain ⟨⟨⟨⟨rfl, rfl⟩, h1⟩, h2⟩, h3⟩ := h
          obtain ⟨g1, m1⟩ := okB_ok O h1
          obtain ⟨g2, m2⟩ := okB_ok O h2
          exact snd_sortSet O.room O.calm g1 m1 g2 m2 (okE_ok ma c X W a O h3)
        · cases h
      · cases h
    by_cases hb4 : b = .lenSet
    · subst hb4
      rw [okE] at h
      split at h
      · rename_i y r hx
        obtain ⟨p, p2, rfl⟩ := vCallN_ok hx
        split at h
        · rename_i z a hy
          obtain ⟨p3, p4, rfl⟩ := vCallN_ok hy
          simp only [Bool.and_eq_true, decide_eq_true_eq] at h
          obtain ⟨⟨⟨⟨rfl, rfl⟩, h1⟩, h2⟩, h3⟩ := h
          obtain ⟨g1, m1⟩ := okB_ok O h1
          obtain ⟨g2, m2⟩ := okB_ok O h2
          exact snd_lenSet O.calm g1 m1 g2 m2 (okE_ok ma c X W a O h3)
        · cases h
      · cases h
    · rw [okE] at h
      · split at h
        · rename_i y a n hx hn
          obtain ⟨p, p2, rfl⟩ := vCallN_ok hx
          simp only [Bool.and_eq_true, decide_eq_true_eq, Bool.not_eq_true', Bool.or_eq_true] at h
          obtain ⟨⟨rfl, h1⟩, h2⟩ := h
          obtain ⟨g1, m1⟩ := okB_ok O h1
          exact snd_b1 O.room O.calm hn g1 m1 (okE_ok ma c X W a O h2)
        · cases h
      · exact hb
      · exact hb2
      · exact hb3
      · exact hb4
theorem okO_ok : ∀ (m : Eo) (c : CC) (X : Cx) (W : WC) (e : Option Expr), Ok X c k cv W → okO c m e = true → SndO X (csOf c.fs k) W m e
  | .no, c, X, W, none, O, h => snd_no
  | .so m, c, X, W, some e, O, h => by
    rw [okO] at h
    exact snd_so (okE_ok m c X W e O h)
  | .no, c, X, W, some _, O, h => by simp [okO] at h
  | .so m, c, X, W, none, O, h => by simp [okO] at h
theorem okT_ok : ∀ (m : Eo) (c : CC) (X : Cx) (W : WC) (es : List Expr), Ok X c k cv W → okT c m es = true → PTs X es (tTO (csOf c.fs k) W m)
  | .no, c, X, W, [], O, h => snd_if0
  | .so m, c, X, W, [e], O, h => by
    rw [okT] at h
    simp only [Bool.and_eq_true, decide_eq_true_eq, Bool.not_eq_true', Bool.or_eq_true] at h
    exact snd_if1 (okE_ok m c X W e O h.2) h.1
  | .no, c, X, W, _ :: _, O, h => by simp [okT] at h
  | .so m, c, X, W, [], O, h => by simp [okT] at h
  | .so m, c, X, W, _ :: _ :: _, O, h => by simp [okT] at h
theorem okEs_ok : ∀ (m : Es) (c : CC) (X : Cx) (W : WC) (es : List Expr), Ok X c k cv W → okEs c m es = true → SndA X (csOf c.fs k) W m es
  | .nil, c, X, W, [], O, h => snd_nil
  | .cons m r, c, X, W, e :: es, O, h => by
    rw [okEs] at h
    simp only [Bool.and_eq_true, decide_eq_true_eq, Bool.not_eq_true', Bool.or_eq_true] at h
    exact snd_cons (okE_ok m c X W e O h.1) (okEs_ok r c X W es O h.2)
  | .nil, c, X, W, _ :: _, O, h => by simp [okEs] at h
  | .cons m r, c, X, W, [], O, h => by simp [okEs] at h
theorem okDs_ok : ∀ (m : Es) (c : CC) (X : Cx) (W : WC) (ks : List (Option Expr)) (vs : List Expr) (p : Pos), Ok X c k cv W → okDs c m ks vs = true → DispOk X (csOf c.fs k) W p m ks vs
  | .nil, c, X, W, [], [], p, O, h => DispOk.nil
  | .cons mk (.cons mv r), c, X, W, some kx :: ks, v :: vs, p, O, h => by
    rw [okDs] at h
    simp only [Bool.and_eq_true] at h
    exact .cons (okE_ok mk c X W kx O h.1.1) (okE_ok mv c X W v O h.1.2) (okDs_ok r c X W ks vs p O h.2)
  | .nil, c, X, W, _ :: _, _, p, O, h => by simp [okDs] at h
  | .nil, c, X, W, [], _ :: _, p, O, h => by simp [okDs] at h
  | .cons _ .nil, c, X, W, _, _, p, O, h => by simp [okDs] at h
  | .cons _ (.cons _ _), c, X, W, [], _, p, O, h => by simp [okDs] at h
  | .cons _ (.cons _ _), c, X, W, none :: _, _, p, O, h => by simp [okDs] at h
  | .cons _ (.cons _ _), c, X, W, some _ :: _, [], p, O, h => by simp [okDs] at h
theorem okI_ok : ∀ (m : It) (c : CC) (X : Cx) (W : WC) (tg e : Expr), Ok X c k cv W → okI c m tg e = true → SndI X (csOf c.fs k) W m tg e
  | .val m, c, X, W, tg, e, O, h => by
    rw [okI] at h
    exact snd_val (okE_ok m c X W e O h)
  | .hid i, c, X, W, tg, e, O, h => by
    rw [okI] at h
    split at h
    · rename_i x hx
      obtain ⟨p, rfl⟩ := vName_ok hx
      obtain ⟨h1, h2, h3, h4⟩ := okVar_ok O h
      exact snd_hid h1 h2 h3 h4
    · cases h
  | .rng ms, c, X, W, tg, e, O, h => by
    rw [okI] at h
    split at h
    · rename_i y es hx
      obtain ⟨p, p2, rfl⟩ := vCallN_ok hx
      simp only [Bool.and_eq_true, decide_eq_true_eq, Bool.not_eq_true', Bool.or_eq_true] at h
      obtain ⟨⟨⟨rfl, h1⟩, hl⟩, h3⟩ := h
      obtain ⟨g1, m1⟩ := okB_ok O h1
      match ms, es, hl, h3 with
      | .cons m1' .nil, [a], _, h3 =>
        rw [okEs] at h3; simp only [Bool.and_eq_true, decide_eq_true_eq, Bool.not_eq_true', Bool.or_eq_true] at h3
        exact snd_rng1 g1 m1 (okE_ok m1' c X W a O h3.1)
      | .cons m1' (.cons m2' .nil), [a, b], _, h3 =>
        rw [okEs] at h3; simp only [Bool.and_eq_true, decide_eq_true_eq, Bool.not_eq_true', Bool.or_eq_true] at h3
        have h4 := h3.2
        rw [okEs] at h4; simp only [Bool.and_eq_true, decide_eq_true_eq, Bool.not_eq_true', Bool.or_eq_true] at h4
        exact snd_rng2 g1 m1 (okE_ok m1' c X W a O h3.1) (okE_ok m2' c X W b O h4.1)
      | .cons m1' (.cons m2' (.cons m3' .nil)), [a, b, d], _, h3 =>
        rw [okEs] at h3; simp only [Bool.and_eq_true, decide_eq_true_eq, Bool.not_eq_true', Bool.or_eq_true] at h3
        have h4 := h3.2
        rw [okEs] at h4; simp only [Bool.and_eq_true, decide_eq_true_eq, Bool.not_eq_true', Bool.or_eq_true] at h4
        have h5 := h4.2
        rw [okEs] at h5; simp only [Bool.and_eq_true, decide_eq_true_eq, Bool.not_eq_true', Bool.or_eq_true] at h5
        exact snd_rng3 g1 m1 (okE_ok m1' c X W a O h3.1) (okE_ok m2' c X W b O h4.1) (okE_ok m3' c X W d O h5.1)
      | .nil, [], hl, _ => simp at hl
      | .nil, _ :: _, hl, h3 => simp [okEs] at h3
      | .cons _ _, [], hl, h3 => simp [okEs] at h3
      | .cons _ (.cons _ _), [_], hl, h3 => simp [okEs] at h3
      | .cons _ .nil, _ :: _ :: _, hl, h3 => simp [okEs] at h3
      | .cons _ (.cons _ (.cons _ _)), [_, _], hl, h3 => simp [okEs] at h3
      | .cons _ (.cons _ .nil), _ :: _ :: _ :: _, hl, h3 => simp [okEs] at h3
      | .cons _ (.cons _ (.cons _ (.cons _ _))), [_, _, _], hl, h3 => simp [okEs] at h3
      | .cons _ (.cons _ (.cons _ _)), _ :: _ :: _ :: _ :: _, hl, h3 => simp at hl
    · cases h
  | .enu m, c, X, W, tg, e, O, h => by
    rw [okI] at h
    split at h
    · rename_i y a ts hx ht
      obtain ⟨p, p2, rfl⟩ := vCallN_ok hx
      obtain ⟨j, p3, rfl⟩ := vTuple_ok ht
      simp only [Bool.and_eq_true, decide_eq_true_eq, Bool.not_eq_true', Bool.or_eq_true] at h
      obtain ⟨⟨rfl, h1⟩, h2⟩ := h
      obtain ⟨g1, m1⟩ := okB_ok O h1
      exact snd_enu g1 m1 (okE_ok m c X W a O h2)
    · cases h
  | .ehid i, c, X, W, tg, e, O, h => by rw [okI] at h; cases h
  | .zip ma mb, c, X, W, tg, e, O, h => by
    rw [okI] at h
    split at h
    · rename_i y a b ts hx ht
      obtain ⟨p, p2, rfl⟩ := vCallN_ok hx
      obtain ⟨j, p3, rfl⟩ := vTuple_ok ht
      simp only [Bool.and_eq_true, decide_eq_true_eq, Bool.not_eq_true', Bool.or_eq_true] at h
      obtain ⟨⟨⟨rfl, h1⟩, h2⟩, h3⟩ := h
      obtain ⟨g1, m1⟩ := okB_ok O h1
      exact snd_zip g1 m1 (okE_ok ma c X W a O h2) (okE_ok mb c X W b O h3)
    · cases h
  | .rvd m, c, X, W, tg, e, O, h => by
    rw [okI] at h
    split at h
    · rename_i y a hx
      obtain ⟨p, p2, rfl⟩ := vCallN_ok hx
      simp only [Bool.and_eq_true, decide_eq_true_eq, Bool.not_eq_true', Bool.or_eq_true] at h
      obtain ⟨⟨rfl, h1⟩, h2⟩ := h
      obtain ⟨g1, m1⟩ := okB_ok O h1
      exact snd_rvd g1 m1 (okE_ok m c X W a O h2)
    · cases h
end
end
end VI
namespace VI
open PySem PySem.Spec PyProof.Rows L2
/-! ### statements, their rules -/
theorem ends_seq {Z : Ends} {W : WC} {A : List Nat} {σ : L2.St} {H : Hp} {P : Addr → Prop} {T : FP} {r : Fl} {f : Env → Fl} (h : PF W Z A σ H P T (r.seq f)) :
    PF W { Z with nx := fun σ' H' => ∃ e' P' F', Kp A σ σ' ∧ St0 σ' e' H' P' F' ∧ Stp H P T H' P' (tot F') ∧ PF W Z A σ' H' P' (tot F') (f e') } A σ H P T r := by
  cases r with
  | nx e' => exact fun σ' H' P' F' k S st => ⟨e', P', F', k, S, st, PF.from k st h⟩
  | brk e' => exact h
  | ret d l e' => exact h
  | exc c e' => exact h
  | stk => exact h
section
variable {cs : CS} {W : WC} {Z : Ends} {A B : List Nat} {σ : L2.St} {H : Hp} {m a b : E} {K : PySem.W.Frag}
/-- a store of a value without mutable parts -/
theorem store_end {i : Nat} {d : D} {v : V} {e : Env} {P : Addr → Prop} {F : List FP} {T : FP} (S : St0 σ e H P F) (im : imm d = true) (r : RepD H P d .full v fz) (hT : ∀ a, tot F a ≤ T a) (q : PF W Z A σ H P T (storeX cs i b d e)) :
    gSub (tVar i) (tI cs W b) rSetA v σ H Z.nx := by
  unfold storeX at q
  split at q
  case h_2 => exact q.elim
  rename_i d0 l0 hg0
  obtain ⟨o, fo', ho, _, _⟩ := S.rel.get (gt_own hg0)
  replace q : PF W Z A σ H P (fa (tot F) fz) ((evalE cs b e).fl fun y e3 => setX i (d, .full) (deref e3 y) e3) := PF.from (Kp.refl _ _) ((Stp.refl H P T).mono (fun _ => Nat.le_refl _) fun c => by simpa using hT c) q
  refine ⟨o, ho, e, P, F, S, (PF.xf S Frm.z q).mono fun w H2 ⟨y, e3, P3, F3, f3, S3, ry, fr3, frk, car, q3⟩ => ?_⟩
  replace q3 := PF.from (Kp.refl A σ) (T1 := fa (tot F3) fz) ((Stp.refl H2 P3 _).mono (fun _ => Nat.le_refl _) fun c => by simp) q3
  have rc : RepD H2 P3 d .full v fz := r.car car
  unfold setX at q3
  split at q3
  · rename_i ds lv j hg hy
    obtain ⟨ly, gy, ryy⟩ := deref_ok S3 ry hy
    obtain rfl := rep_int ryy
    split at q3
    · exact q3.elim
    rename_i hl
    split at q3
    · rename_i n hn
      obtain ⟨p, xs, P4, F4, g4, f4, h1, h2, h3, h4, S4, h5, h6, h7, fr4, st4⟩ := prepL S3 hg hl (RepL.one rc) Frm.z
      rw [ho] at h1
      cases h1
      obtain ⟨v', r', f1, f5, y1, y2, ⟨y3, y4⟩, y5⟩ := h7
      subst y3 y4
      injection y1 with y1 _
      subst y1
      rw [fa_z] at y5
      subst y5
      have hn' : n < ds.length := (ixN_lt hn)
      obtain ⟨hh, z1, z2⟩ := h6.set hn' y2
      refine .inl ⟨p, xs, j, n, rfl, rfl, h2, by rw [h3]; exact hn, ?_⟩
      exact mut_nx S4 ho h2 h4 h5 fr4 z1 z2 (addLv_ne _ _) st4 q3
    · exact q3.elim
  · rename_i kvs lv kd hg hy
    obtain ⟨ly, gy, ryy⟩ := deref_ok S3 ry hy
    split at q3
    · exact q3.elim
    rename_i hl
    split at q3
    · rename_i key hk
      obtain rfl := rep_key1 hk ryy
      split at q3
      · rename_i hz
        obtain ⟨p, xs, P4, F4, g4, f4, h1, h2, h3, h4, S4, h5, h6, h7, fr4, st4⟩ := prepK S3 hg hl rc Frm.z
        rw [ho] at h1
        cases h1
        obtain ⟨hh, z1, z2⟩ := h6.put (k := key) hz.2 h7
        refine .inr ⟨p, _, rfl, .inl ⟨xs, key, h2, rfl, by rw [h3]; exact hz.1, rfl⟩, ?_⟩
        have one := S4.one p
        have le := tot_le p h5
        simp [fo_same] at le
        have hg0 : g4 p = 0 := by omega
        have hf0 : f4 p = 0 := Nat.eq_zero_of_not_pos fun z => by have := (fr4 p z).2.1; omega
        have np : ¬ P4 p := fun z => by have := S4.sep p z; omega
        have hh0 : hh p = 0 := by have := z2 p; omega
        have qn : RepD (upd H2 p (.dK (putK xs key v))) P4 (.dK (dputK key d kvs)) (addLv lv .full) (.ref p) (fa (fo p) hh) := by
          refine ⟨p, putK xs key v, hh, rfl, z1.car (car_mut h2 rfl np hh0), .inr ⟨addLv_ne _ _, upd_same, rfl⟩⟩
        obtain ⟨S', fr', st'⟩ := S4.mut (r := fz) ho h5 (by rw [List.length_set]; exact h4) h2 rfl fr4 qn (fun c => by have := z2 c; simp; omega)
        rw [List.set_set] at S'
        exact q3 σ _ P4 _ (Kp.refl _ _) S' ((st4.trans st').mono (fun _ => Nat.le_refl _) fun c => by simp)
      · exact q3.elim
    · exact q3.elim
  · exact q3.elim
theorem car_tups {H H' : Hp} {P P' : Addr → Prop} {T T' : FP} (s : Stp H P T H' P' T') {d : D} {v : V} (im : imm d = true) (r : RepD H P d .full v fz) : RepD H' P' d .full v fz :=
  (RepD.imm (P' := P') .full im (RepD.car (H' := H') (P' := fun _ => False) (P := fun _ => False) ⟨fun a o z => by simp at z, fun a o z => z.elim, s.tups, fun _ z => z⟩ (RepD.imm (P' := fun _ => False) .full im r).2)).2
theorem gSub_mono {i : Nat} {v : V} {Q Q' : L2.St → Hp → Prop} (h : gSub (tVar i) (tI cs W b) rSetA v σ H Q) (k : ∀ σ' H', Q σ' H' → Q' σ' H') : gSub (tVar i) (tI cs W b) rSetA v σ H Q' := by
  obtain ⟨o, ho, h⟩ := h
  refine ⟨o, ho, tI_mono h fun w H1 z => ?_⟩
  rcases z with ⟨p, xs, j, n, h1, h2, h3, h4, q⟩ | ⟨a, H', h1, h2, q⟩
  · exact .inl ⟨p, xs, j, n, h1, h2, h3, h4, k _ _ q⟩
  · exact .inr ⟨a, H', h1, h2, k _ _ q⟩
theorem set2_read {i j : Nat} {k l : E} (h : tS cs W A (.set2 i k j l a b) Z σ H) :
    tAsg (tI cs W (.tup (.cons a (.cons b .nil)))) (gTup K 2 (gCons (gSub (tVar i) (tI cs W k) rSetA) (gCons (gSub (tVar j) (tI cs W l) rSetA) gNil))) Z σ H := by
  obtain ⟨e, P, F, S, q⟩ := h
  rw [exec] at q
  refine ⟨e, P, F, S, (PF.x q).mono fun v H1 ⟨x, e1, P1, F1, f, S1, rx, fr, q1⟩ => ?_⟩
  split at q1
  case h_2 => exact q1.elim
  rename_i d1 d2 hd
  split at q1
  case isFalse => exact q1.elim
  rename_i him
  obtain ⟨i1, i2⟩ := Bool.and_eq_true_iff.mp him
  obtain ⟨lv, g, r⟩ := deref_ok S1 rx hd
  obtain ⟨p, xs, rfl, r1, r2⟩ := rep_tup r
  obtain ⟨v1, xs1, f1, g1, rfl, h1, ⟨v2, xs2, f2, g2, rfl, h2, ⟨rfl, rfl⟩, rfl⟩, rfl⟩ := r2
  have q1' := ends_seq q1
  refine ⟨p, [v1, v2], rfl, .inl r1, rfl, v1, [v2], rfl, ?_⟩
  refine store_end S1 i1 (RepD.imm (P' := P1) .full i1 h1).2 (fun c => by simp) q1' |> fun z => ?_
  refine gSub_mono z fun σ2 H2 ⟨e2, P2, F2, kp, S2, st2, q2⟩ => ⟨v2, [], rfl, ?_⟩
  have r2' := car_tups st2 i2 (RepD.imm (P' := P1) .full i2 h2).2
  exact gSub_mono (store_end S2 i2 r2' (fun c => Nat.le_refl _) q2) fun σ3 H3 n => ⟨rfl, n⟩
end
end VI
namespace VI
open PySem PySem.Spec PyProof.Rows L2
/-! ### stores: which way they go -/
def vTgt2 : Expr → Option (Expr × Expr × Nat)
  | .Tuple [a, b] _ _ => some (a, b, a.pos.line)
  | _ => none
def isTupX : Expr → Bool
  | .Tuple .. => true | _ => false
def isComp : Expr → Bool
  | .ListComp .. => true | .SetComp .. => true | .DictComp .. => true | _ => false
theorem swW_no {e : Expr} (h : isComp e = false) (t : Option Expr) (l : Nat) (env : PySem.Env) : swapsWith e t l env = pure false := by
  cases e <;> first | rfl | cases h
theorem swW_tup {e a : Expr} {l : Nat} {env : PySem.Env} (h : vName a = none) : swapsWith e (some a) l env = pure false := by
  cases e <;> first | rfl | (cases a <;> first | rfl | cases h)
theorem swS_e {t e : Expr} {env : PySem.Env} (h : isTupX e = false) : swappedStores [t] e env = pure none := by
  cases e <;> first | (cases t <;> rfl) | cases h
theorem swS_t {t e : Expr} {env : PySem.Env} (h : isTupX t = false) (h2 : vList t = none) : swappedStores [t] e env = pure none := by
  cases t <;> first | (cases e <;> rfl) | (cases h2; done) | (cases h; done)
/-- not two names -/
theorem swS_two {a b e : Expr} {k : Nat} {p : Pos} {env : PySem.Env} (h : vName a = none ∨ vName b = none) : swappedStores [.Tuple [a, b] k p] e env = pure none := by
  cases e with
  | Tuple vs k2 p2 =>
    unfold swappedStores
    dsimp only [pure_bind]
    split
    · rfl
    · split
      · rfl
      · rename_i h1 h2
        have hn : ∀ (f : Expr → Option Str), (∀ x, vName x = none → f x = none) → ([a, b].filterMap f).length ≠ 2 := fun f hf => by
          rcases h with h | h
          · rw [List.filterMap_cons, hf a h]
            intro z
            have := List.length_filterMap_le f [b]
            rw [z] at this
            simp at this
          · rw [List.filterMap_cons]
            cases f a with
            | none =>
              intro z
              have := List.length_filterMap_le f [b]
              rw [z] at this
              simp at this
            | some y => simp [hf b h]
        split
        · rfl
        · rename_i h3
          exfalso
          simp only [Bool.or_eq_true, bne_iff_ne, ne_eq, not_or, Decidable.not_not] at h3
          refine hn _ (fun x hx => ?_) h3.1
          cases x <;> first | rfl | cases hx
  | _ => rfl
theorem swS_names {x y : Str} {px py pt pt2 : Pos} {kt k2 : Nat} {a b : Expr} {env : PySem.Env} (hk : env.scope.kind = .function) (hx : env.scope.names.lookup x = some .local) (hy : env.scope.names.lookup y = some .local) (hl : (py.line == px.line) = true) (hxy : x ≠ y)
    (ha : plX a = true) (hb : plX b = true) (hf : [a, b].all (foldedForSure 8) = false) (hc : [a, b].all (constantsAlone 8) = false) :
    swappedStores [.Tuple [.Name x px, .Name y py] kt pt] (.Tuple [a, b] k2 pt2) env = pure (some [x, y]) := by
  have kx : env.kindOf x = some .local := hx
  have ky : env.kindOf y = some .local := hy
  have hbk : env.blockKind = .function := by unfold Env.blockKind; rw [hk]; rfl
  have hst : ∀ f : Expr → Bool, (∀ e, plX e = true → f e = false) → [a, b].any f = false := fun f h => by
    show (f a || (f b || false)) = false
    rw [h a ha, h b hb]; rfl
  unfold swappedStores
  dsimp only [pure_bind]
  rw [hbk, hst _ (fun e he => by cases e <;> first | rfl | cases he), hf, hc]
  have hne : (y == x) = false := by
    rw [beq_eq_false_iff_ne]; exact fun h => hxy h.symm
  have hl' : py.line = px.line := by simpa using hl
  simp [kx, ky, Expr.pos, hl', List.eraseDups_cons, hne]
end VI
namespace VI
open PySem PySem.Spec PyProof.Rows L2
/-! ### a loop that changes the items of a slot's own list -/
def Sh.isEn : Sh → Bool
  | .en _ _ => true
  | _ => false
/-- the slots of a shape are two -/
def Sh.ok : Sh → Bool
  | .it _ => true
  | .en k t => decide (k ≠ t)
  | .tu t k => decide (k ≠ t)
theorem New.tups {H H' : Hp} (n : New H H') : ∀ a xs, Rd H a (.tup xs) → Rd H' a (.tup xs) := fun a xs h => by
  rcases n with rfl | ⟨p, ys, hn, rfl⟩
  · exact h
  · have : a ≠ p := fun e => by
      subst e
      rcases h with h | ⟨o, h⟩ <;> rw [hn] at h <;> cases h
    rcases h with h | ⟨o, h⟩
    · exact .inl (by rw [upd_ne this]; exact h)
    · exact .inr ⟨o, by rw [upd_ne this]; exact h⟩
/-- what a loop over the list at a gives: its items, or new pairs -/
structure OwnJ (J : L2.It) (en : Bool) (a : Addr) (xs : List V) : Prop where
  stop : ∀ i H, H a = some (.lst xs) → xs.length ≤ i → J.stop i H
  go : ∀ i H v, H a = some (.lst xs) → xs[i]? = some v → J.go i H
  yld : ∀ i H x H', H a = some (.lst xs) → J.yld i H x H' → ∃ v, xs[i]? = some v ∧ ((en = false ∧ x = v ∧ H' = H) ∨ (en = true ∧ ∃ p, x = .ref p ∧ H p = none ∧ H' = upd H p (.tup [.int (i : Nat), v])))
section
variable {K : PySem.W.Frag} {cs : CS} {W : WC} {Z : Ends} {A M B : List Nat} {σ0 : L2.St}
theorem ownJ_l (a : Addr) (xs : List V) : OwnJ (Itl K a) false a xs where
  stop := fun i H h hl => ⟨xs, .inl (.inl h), hl⟩
  go := fun i H v h hv => ⟨xs, v, .inl (.inl h), hv⟩
  yld := fun i H x H' h ⟨e, hy⟩ => ⟨x, hy xs (.inl (.inl h)), .inl ⟨rfl, rfl, e⟩⟩
theorem ownJ_e (a : Addr) (xs : List V) : OwnJ (Ite K a) true a xs where
  stop := fun i H h hl => ⟨xs, .inl (.inl h), hl⟩
  go := fun i H v h hv => ⟨xs, v, .inl (.inl h), hv⟩
  yld := fun i H x H' h ⟨T, v, e1, e2, e3, hy⟩ => ⟨v, hy xs (.inl (.inl h)), .inr ⟨rfl, T, e1, e2, e3⟩⟩
theorem tgr_two {a b : Nat} {p : Addr} {v1 v2 : V} {σ : L2.St} {H : Hp} {Q : L2.St → Hp → Prop} (r : SqT K H p [v1, v2] ∨ Rd H p (.lst [v1, v2])) (q : Q ((σ.set a (some v1)).set b (some v2)) H) : tGr K (.two (.nm a) (.nm b)) (.ref p) σ H Q :=
  ⟨p, _, rfl, r, rfl, v1, [v2], rfl, v2, [], rfl, rfl, q⟩
theorem gt_set_eq {e : Env} {i : Nat} {s : Slot} (h : i < e.length) : gt (e.set i s) i = s := by
  unfold gt
  rw [List.getD_eq_getElem?_getD, List.getElem?_set_self h]; rfl
theorem bindG_nmF {i : Nat} {d : D} {e e' : Env} (h : bindG (.nm i) d .full e = some e') : i < e.length ∧ e' = e.set i (.own d .full) := by
  have h' : (if i < e.length then some (e.set i (.own d (if imm d then .full else .full))) else none) = some e' := h
  split at h'
  · rename_i hi
    cases h'
    exact ⟨hi, by rw [ite_self]⟩
  · cases h'
/-- an item given to the slots of its names -/
theorem sh_bind {h : Sh} (hok : h.ok = true) {i : Nat} {d : D} {e e3 : Env} {σ : L2.St} {H H1 : Hp} {P : Addr → Prop} {F : List FP} {v x : V} {f : FP} (S : St0 σ e H1 P F) (r : RepD H1 P d .full v f) (fr : Frm f H1 P (tot F))
    (hx : (h.isEn = false ∧ x = v ∧ H1 = H) ∨ (h.isEn = true ∧ ∃ p, x = .ref p ∧ H p = none ∧ H1 = upd H p (.tup [.int (i : Nat), v]))) (hb : bindG h.g (h.item i d) .full e = some e3) :
    ∃ σ2 F3 w, (∀ Q : L2.St → Hp → Prop, Q σ2 H1 → tGr K h.g x σ H1 Q) ∧ St0 σ2 e3 H1 P F3 ∧ (∀ b, tot F3 b ≤ tot F b + f b) ∧ σ2[h.t]? = some (some w) ∧ (∀ j, j ∉ h.g.slots → σ2[j]? = σ[j]?) ∧
      ∀ {H4 : Hp} {P4 : Addr → Prop} {T T' f' : FP} {d' dn : D}, Stp H1 P T H4 P4 T' → (∀ a, P a → T a = 0) → RepD H4 P4 d' .full w f' → h.put d d' = some dn → RepD H4 P4 dn .full v f' := by
  have sl := S.rel.len.1
  cases h with
  | it t =>
    obtain ⟨hi, rfl⟩ := bindG_nmF hb
    rcases hx with ⟨_, rfl, rfl⟩ | ⟨z, _⟩
    · obtain ⟨S', t'⟩ := S.bind r fr hi
      refine ⟨σ.set t (some x), _, x, fun Q q => q, S', t', ?_, fun j hj => ?_, fun st hp r' e => ?_⟩
      · show (σ.set t (some x))[t]? = _
        rw [List.getElem?_set_self (by omega)]
      · rw [List.getElem?_set_ne (fun e => hj (by rw [e]; exact List.mem_singleton.mpr rfl))]
      · cases e; exact r'
    · cases z
  | en k t =>
    have hkt : k ≠ t := of_decide_eq_true hok
    rcases hx with ⟨z, _⟩ | ⟨_, p, rfl, hn, rfl⟩
    · cases z
    · obtain ⟨e1, b1, b2⟩ := Option.bind_eq_some_iff.mp (show (bindG (.nm k) (.int i) .full e).bind (fun e1 => bindG (.nm t) d .full e1) = some e3 by simpa only [Sh.g, Sh.item, bindG, Lv.pred] using hb)
      obtain ⟨hk, rfl⟩ := bindG_nmF b1
      obtain ⟨ht, rfl⟩ := bindG_nmF b2
      obtain ⟨S1, t1⟩ := S.bind (d := .int i) (l := .full) (v := .int i) (f := fz) ⟨rfl, rfl⟩ Frm.z hk
      obtain ⟨S2, t2⟩ := S1.bind r (fr.less fun b => by have := t1 b; simpa using this) ht
      refine ⟨_, _, v, fun Q q => tgr_two (.inl (.inl (.inl upd_same))) q, S2, fun b => by have := t1 b; have := t2 b; simp at *; omega, ?_, fun j hj => ?_, fun st hp r' e => ?_⟩
      · show ((σ.set k (some (V.int i))).set t (some v))[t]? = _
        rw [List.getElem?_set_self (by rw [List.length_set] at ht ⊢; omega)]
      · have : j ≠ k ∧ j ≠ t := by simpa [Sh.g, G.slots] using hj
        rw [List.getElem?_set_ne (Ne.symm this.2), List.getElem?_set_ne (Ne.symm this.1)]
      · cases e; exact r'
  | tu t k =>
    have hkt : k ≠ t := of_decide_eq_true hok
    rcases hx with ⟨_, rfl, rfl⟩ | ⟨z, _⟩
    · obtain ⟨d1, d2, e1, hd, b1, b2⟩ : ∃ d1 d2 e1, (d = .tup [d1, d2] ∨ d = .lst [d1, d2]) ∧ bindG (.nm t) d1 .full e = some e1 ∧ bindG (.nm k) d2 .full e1 = some e3 := by
        have hb' : bindG (.two (.nm t) (.nm k)) d .full e = some e3 := hb
        cases d with
        | tup ds =>
          match ds, hb' with
          | [d1, d2], hb' =>
            obtain ⟨e1, b1, b2⟩ := Option.bind_eq_some_iff.mp (show (bindG (.nm t) d1 .full e).bind (fun e1 => bindG (.nm k) d2 .full e1) = some e3 by simpa only [bindG, Lv.pred] using hb')
            exact ⟨d1, d2, e1, .inl rfl, b1, b2⟩
          | [], hb' => simp [bindG] at hb'
          | [_], hb' => simp [bindG] at hb'
          | _ :: _ :: _ :: _, hb' => simp [bindG] at hb'
        | lst ds =>
          match ds, hb' with
          | [d1, d2], hb' =>
            obtain ⟨e1, b1, b2⟩ := Option.bind_eq_some_iff.mp (show (bindG (.nm t) d1 .full e).bind (fun e1 => bindG (.nm k) d2 .full e1) = some e3 by simpa only [bindG, Lv.pred] using hb')
            exact ⟨d1, d2, e1, .inr rfl, b1, b2⟩
          | [], hb' => simp [bindG] at hb'
          | [_], hb' => simp [bindG] at hb'
          | _ :: _ :: _ :: _, hb' => simp [bindG] at hb'
        | _ => simp [bindG] at hb'
      rcases hd with rfl | rfl
      · obtain ⟨ht, rfl⟩ := bindG_nmF b1
        obtain ⟨hk, rfl⟩ := bindG_nmF b2
        obtain ⟨p, xs, rfl, r1, v1, xs1, f1, g1, rfl, h1, ⟨v2, xs2, f2, g2, rfl, h2, ⟨rfl, rfl⟩, rfl⟩, rfl⟩ := r
        rw [fa_z] at fr
        obtain ⟨S1, t1⟩ := S.bind h1 fr.fst ht
        obtain ⟨S2, t2⟩ := S1.bind h2 (fr.right.less t1) hk
        refine ⟨_, _, v1, fun Q q => tgr_two (.inl (.inl r1)) q, S2, fun b => by have := t1 b; have := t2 b; simp at *; omega, ?_, fun j hj => ?_, fun {H4 P4 T T' f' d' dn} st hp r' e => ?_⟩
        · show ((σ.set t (some v1)).set k (some v2))[t]? = _
          rw [List.getElem?_set_ne hkt, List.getElem?_set_self (by omega)]
        · have : j ≠ t ∧ j ≠ k := by simpa [Sh.g, G.slots] using hj
          rw [List.getElem?_set_ne (Ne.symm this.2), List.getElem?_set_ne (Ne.symm this.1)]
        · have e' : (if imm d2 then some (D.tup [d', d2]) else none) = some dn := e
          split at e'
          · rename_i hi
            cases e'
            obtain ⟨z, q⟩ := RepD.imm (P' := P) .full hi h2
            exact ⟨p, [v1, v2], rfl, st.tups p _ r1, v1, [v2], f', fz, rfl, r', ⟨v2, [], fz, fz, rfl, q.car (st.car Frm.z hp), ⟨rfl, rfl⟩, rfl⟩, (fa_z _).symm⟩
          · cases e'
      · obtain ⟨ht, rfl⟩ := bindG_nmF b1
        obtain ⟨hk, rfl⟩ := bindG_nmF b2
        obtain ⟨p, xs, g, rfl, r1, ⟨v1, xs1, f1, g1, rfl, h1, ⟨v2, xs2, f2, g2, rfl, h2, ⟨rfl, rfl⟩, rfl⟩, rfl⟩, hle⟩ := rep_lstF r
        rw [fa_z] at hle
        replace fr := fr.mono hle
        obtain ⟨S1, t1⟩ := S.bind h1 fr.fst ht
        obtain ⟨S2, t2⟩ := S1.bind h2 (fr.right.less t1) hk
        refine ⟨_, _, v1, fun Q q => tgr_two (.inr r1) q, S2, fun b => by have := t1 b; have := t2 b; have := hle b; simp at *; omega, ?_, fun j hj => ?_, fun {H4 P4 T T' f' d' dn} st hp r' e => ?_⟩
        · show ((σ.set t (some v1)).set k (some v2))[t]? = _
          rw [List.getElem?_set_ne hkt, List.getElem?_set_self (by omega)]
        · have : j ≠ t ∧ j ≠ k := by simpa [Sh.g, G.slots] using hj
          rw [List.getElem?_set_ne (Ne.symm this.2), List.getElem?_set_ne (Ne.symm this.1)]
        · cases e
    · cases z
def FInvO (cs : CS) (W : WC) (Z : Ends) (A M : List Nat) (σ0 : L2.St) (a : Addr) (xs : List V) (h : Sh) (i0 : Nat) (b : Ss) (i m : Nat) (σ : L2.St) (H : Hp) : Prop :=
  ∃ done ds e P F g1 g2, m = ds.length ∧ Kp M σ0 σ ∧ St0 σ e H P F ∧ H a = some (.lst xs) ∧ RepL H P done .full (xs.take i) g1 ∧ RepL H P ds .full (xs.drop i) g2 ∧ Frm (fa (fo a) (fa g1 g2)) H P (tot F) ∧
    i0 < e.length ∧ PF W Z A σ H P (fa (tot F) (fa (fo a) (fa g1 g2))) ((forOL h (fun e1 => execs cs b e1) i ds e).fl fun r e1 => .nx (e1.set i0 (.own (.lst (done ++ r)) .full)))
theorem forO_turn {J : L2.It} {a : Addr} {xs : List V} {h : Sh} {i0 : Nat} {b : Ss} {i m : Nat} {σ : L2.St} {H : Hp} (w : OwnJ J h.isEn a xs) (hok : h.ok = true) (h0 : σ0[i0]? = some (some (.ref a))) (hi0 : i0 ∉ M) (hg : ∀ j ∈ h.g.slots, j ∈ M) (hB : ∀ j ∈ B, j ∈ M) (ht : h.t ∉ B) (hA : ∀ j ∈ M, j ∈ A)
    (q : FInvO cs W Z A M σ0 a xs h i0 b i m σ H) :
    (J.stop i H ∧ Z.nx σ H) ∨ (J.go i H ∧ ∃ N : L2.St → Hp → Prop, (∀ σ' H', N σ' H' → ∃ m', m' < m ∧ FInvO cs W Z A M σ0 a xs h i0 b (i + 1) m' σ' H') ∧ ∀ x H', J.yld i H x H' → tGr K h.g x σ H' fun σ2 H2 => tSs cs W B b { Z with nx := N, ct := N, bk := Z.nx } σ2 H2) := by
  obtain ⟨done, ds, e, P, F, g1, g2, rfl, kp, S, hH, rd, rr, fr, hie, q⟩ := q
  have sep := S.sep
  cases ds with
  | nil =>
    have hl := rr.len
    rw [List.length_drop] at hl
    simp at hl
    refine .inl ⟨w.stop i H hH (by omega), ?_⟩
    obtain ⟨_, rfl⟩ := rr
    have ex : xs.take i = xs := List.take_of_length_le (by omega)
    rw [ex] at rd
    rw [fa_z] at fr q
    have hs : σ[i0]? = some (some (.ref a)) := by rw [kp i0 hi0]; exact h0
    obtain ⟨S3, t3⟩ := S.bind (d := .lst done) (l := .full) (v := .ref a) (f := fa (fo a) g1) ⟨a, xs, g1, rfl, rd, .inr ⟨by simp, hH, rfl⟩⟩ fr hie
    rw [set_get_self hs] at S3
    replace q : PF W Z A σ H P (fa (tot F) (fa (fo a) g1)) (.nx (e.set i0 (.own (.lst (done ++ [])) .full))) := q
    rw [List.append_nil] at q
    exact q σ H P _ (Kp.refl _ _) S3 ((Stp.refl H P _).mono (fun _ => Nat.le_refl _) fun b => by have := t3 b; simp at this ⊢; omega)
  | cons d ds =>
    obtain ⟨v, r, f1, f2, ev, r1, r2, rfl⟩ := rr
    obtain ⟨hv, hr⟩ := drop_cons ev
    have hiL : i < xs.length := (List.getElem?_eq_some_iff.mp hv).1
    refine .inr ⟨w.go i H v hH hv, fun σ' H' => FInvO cs W Z A M σ0 a xs h i0 b (i + 1) ds.length σ' H', fun σ' H' n => ⟨ds.length, by simp, n⟩, fun x H1 y1 => ?_⟩
    obtain ⟨v', hv', hx⟩ := w.yld i H x H1 hH y1
    rw [hv] at hv'
    cases hv'
    have nw : New H H1 := by
      rcases hx with ⟨_, _, rfl⟩ | ⟨_, p, _, hn, rfl⟩
      · exact .inl rfl
      · exact .inr ⟨p, _, hn, rfl⟩
    have S1 := nw.st S
    have stn : ∀ T, Stp H P T H1 P T := fun T => nw.stp
    have frn : Frm (fa (fo a) (fa g1 (fa f1 f2))) H1 P (tot F) := (stn (tot F)).frm fr
    have car1 : ∀ {g : FP}, (∀ b, g b ≤ (fa (fo a) (fa g1 (fa f1 f2))) b) → Car H H1 P P g := fun hg => (stn (tot F)).car (fr.mono hg) sep
    have hH1 : H1 a = some (.lst xs) := (car1 (g := fo a) fun b => by simp).own a _ (by rw [fo_same]; exact Nat.le_refl 1) hH
    have rd1 : RepL H1 P done .full (xs.take i) g1 := rd.car (car1 fun b => by simp; omega)
    have r11 : RepD H1 P d .full v f1 := r1.car (car1 fun b => by simp; omega)
    have r21 : RepL H1 P ds .full r f2 := r2.car (car1 fun b => by simp; omega)
    replace q := q.from (Kp.refl _ _) (stn _)
    cases hb : bindG h.g (h.item i d) .full e with
    | none =>
      unfold forOL at q
      rw [hb] at q; exact q.elim
    | some e3 =>
      obtain ⟨σ2, F3, wv, tg, S3, t3, hw, k3, back⟩ := sh_bind (K := K) hok (i := i) S1 r11 (frn.mono fun b => by simp; omega) hx hb
      refine tg _ ?_
      unfold forOL at q
      rw [hb] at q
      replace q : PF W Z A σ H1 P (fa (tot F) (fa (fo a) (fa g1 (fa f1 f2)))) ((match execs cs b e3 with
        | .nx e2 => match h.back d e2 with
          | some d' => (forOL h (fun e1 => execs cs b e1) (i + 1) ds (e2.set h.t .none)).bind fun r e4 => .ok (d' :: r) e4
          | none => .stk
        | _ => .stk : R (List D)).fl fun r e1 => .nx (e1.set i0 (.own (.lst (done ++ r)) .full))) := q
      have kp2 : Kp M σ σ2 := fun j hj => k3 j fun z => hj (hg j z)
      refine ⟨e3, P, F3, S3, ?_⟩
      have frB : Frm (fa (fo a) (fa g1 f2)) H1 P (tot F3) := fun c z => by
        have h2 := t3 c
        simp at z
        obtain ⟨z1, z2, z3, z4⟩ := frn c (by simp; omega)
        simp at z1
        exact ⟨by simp; omega, by omega, z3, z4⟩
      cases ex : execs cs b e3 with
      | nx e4 =>
        rw [ex] at q
        intro σ4 H4 P4 F4 k4 S4 st4
        replace q : PF W Z A σ H1 P (fa (tot F) (fa (fo a) (fa g1 (fa f1 f2)))) ((match h.back d e4 with
          | some d' => (forOL h (fun e1 => execs cs b e1) (i + 1) ds (e4.set h.t .none)).bind fun r e4 => .ok (d' :: r) e4
          | none => .stk : R (List D)).fl fun r e1 => .nx (e1.set i0 (.own (.lst (done ++ r)) .full))) := q
        cases hbk : h.back d e4 with
        | none => rw [hbk] at q; exact q.elim
        | some dn =>
          rw [hbk] at q
          -- the item again
          obtain ⟨d', hgd, hput⟩ : ∃ d', gt e4 h.t = .own d' .full ∧ h.put d d' = some dn := by
            unfold Sh.back at hbk
            split at hbk
            · rename_i d' hg'
              exact ⟨d', hg', hbk⟩
            · cases hbk
          obtain ⟨w', fw, hw', hFw, rw'⟩ := S4.rel.get (gt_own hgd)
          have hw4 : σ4[h.t]? = some (some wv) := by rw [k4 _ ht]; exact hw
          rw [hw4] at hw'
          cases hw'
          have rdn := back st4 S3.sep rw' hput
          have st4' := st4.wide (fa (fo a) (fa g1 f2))
          have fr4 := st4.frm frB
          have car4 : ∀ {g : FP}, (∀ b, g b ≤ (fa (fo a) (fa g1 f2)) b) → Car H1 H4 P P4 g := fun hg => st4.car (frB.mono hg) S3.sep
          have tsF : ∀ c, tot (F4.set h.t fz) c + fw c = tot F4 c := fun c => by simpa using tot_set fz c hFw
          have S5 : St0 σ4 (e4.set h.t .none) H4 P4 (F4.set h.t fz) := by
            have rel := Rels.kill (i := h.t) (some wv) S4.rel
            rw [set_get_self hw4] at rel
            exact S4.less rel fun c => by have := tsF c; omega
          have fr5 : Frm (fa (fo a) (fa (fa g1 fw) f2)) H4 P4 (tot (F4.set h.t fz)) := fun c z => by
            have y1 := tsF c
            have y2 := S4.one c
            by_cases z' : 1 ≤ fa (fo a) (fa g1 f2) c
            · obtain ⟨x1, x2, x3, x4⟩ := fr4 c z'
              refine ⟨?_, by omega, x3, x4⟩
              simp at x1 z ⊢; omega
            · simp at z z'
              have hfw : fw c = 1 := by omega
              refine ⟨by simp; omega, by omega, fun y => ?_, S4.inT c (by omega)⟩
              have := S4.sep c y; omega
          refine ⟨done ++ [dn], ds, e4.set h.t .none, P4, F4.set h.t fz, fa g1 fw, f2, rfl, (kp.trans kp2).trans (k4.mono hB), S5, (car4 (g := fo a) fun c => by simp).own a _ (by rw [fo_same]; exact Nat.le_refl 1) hH1, ?_, ?_, fr5, ?_, ?_⟩
          · have e1 : xs.take (i + 1) = xs.take i ++ [v] := by rw [List.take_add_one, hv]; rfl
            rw [e1]
            exact (rd1.car (car4 fun c => by simp; omega)).app (RepL.one rdn)
          · rw [hr]; exact r21.car (car4 fun c => by simp; omega)
          · rw [List.length_set]
            have l1 := S4.rel.len.1
            have l2 := S.rel.len.1
            have hs : σ0[i0]? = σ4[i0]? := by rw [k4 i0 (fun z => hi0 (hB i0 z)), kp2 i0 hi0, kp i0 hi0]
            rw [h0] at hs
            have := (List.getElem?_eq_some_iff.mp hs.symm).1
            omega
          · have q2 : PF W Z A σ H1 P (fa (tot F) (fa (fo a) (fa g1 (fa f1 f2)))) ((forOL h (fun e1 => execs cs b e1) (i + 1) ds (e4.set h.t .none)).fl fun r e1 => .nx (e1.set i0 (.own (.lst (done ++ [dn] ++ r)) .full))) := by
              have e9 : (((forOL h (fun e1 => execs cs b e1) (i + 1) ds (e4.set h.t .none)).bind fun r e4 => R.ok (dn :: r) e4).fl fun r e1 => .nx (e1.set i0 (.own (.lst (done ++ r)) .full))) = ((forOL h (fun e1 => execs cs b e1) (i + 1) ds (e4.set h.t .none)).fl fun r e1 => .nx (e1.set i0 (.own (.lst (done ++ [dn] ++ r)) .full))) := by
                cases forOL h (fun e1 => execs cs b e1) (i + 1) ds (e4.set h.t .none) with
                | ok r e5 =>
                  show Fl.nx (e5.set i0 (.own (.lst (done ++ dn :: r)) .full)) = Fl.nx (e5.set i0 (.own (.lst (done ++ [dn] ++ r)) .full))
                  rw [List.append_assoc]; rfl
                | exc c e5 => rfl
                | stk => rfl
              rw [← e9]; exact q
            refine q2.from ((kp2.trans (k4.mono hB)).mono hA) ?_
            refine (Stp.mono (S := fa (tot F) (fa (fo a) (fa g1 (fa f1 f2)))) st4' (fun c => ?_) fun c => Nat.le_refl _).trans ((Stp.refl H4 P4 _).mono (fun _ => Nat.le_refl _) fun c => ?_)
            · have := t3 c; simp; omega
            · have := tsF c; simp; omega
      | stk => rw [ex] at q; exact q
      | brk e4 => rw [ex] at q; exact q.elim
      | exc c e4 => rw [ex] at q; exact q.elim
      | ret d' l' e4 => rw [ex] at q; exact q.elim
/-- the loop over a slot's own list -/
def tOwnIt (i : Nat) (en : Bool) : TI := fun σ H Q => ∃ a xs, σ[i]? = some (some (.ref a)) ∧ H a = some (.lst xs) ∧ ∀ J, OwnJ J en a xs → Q J H
theorem forO_read {h : Sh} {i0 : Nat} {b : Ss} {σ : L2.St} {H : Hp} (hok : h.ok = true) (hi0 : i0 ∉ M) (hg : ∀ j ∈ h.g.slots, j ∈ M) (hB : ∀ j ∈ B, j ∈ M) (ht : h.t ∉ B) (hA : ∀ j ∈ M, j ∈ A) (q : tS cs W A (.forO h i0 b) Z σ H) : tFor (tOwnIt i0 h.isEn) (tGr K h.g) (tSs cs W B b) Z σ H := by
  obtain ⟨e, P, F, S, q⟩ := q
  rw [exec] at q
  split at q
  · rename_i ds hgs
    obtain ⟨a, xs, g, h1, h2, h3, h4, h5, h6, h7⟩ := S.lst hgs (by simp)
    refine ⟨a, xs, h1, h4, fun J hJ => ?_⟩
    have rel := Rels.kill (i := i0) (some (V.ref a)) S.rel
    rw [set_get_self h1] at rel
    have ts : ∀ c, tot (F.set i0 fz) c + (fo a c + g c) = tot F c := fun c => by simpa using tot_set fz c h2
    have S0 : St0 σ (e.set i0 .none) H P (F.set i0 fz) := S.less rel fun c => by have := ts c; omega
    have fr0 : Frm (fa (fo a) (fa fz g)) H P (tot (F.set i0 fz)) := fun c z => by
      have y1 := ts c
      have y2 := S.one c
      simp at z
      refine ⟨by simp; omega, by omega, fun z' => by have := S.sep c z'; omega, S.inT c (by omega)⟩
    refine ⟨FInvO cs W Z A M σ a xs h i0 b, ⟨ds.length, [], ds, e.set i0 .none, P, F.set i0 fz, fz, g, rfl, Kp.refl _ _, S0, h4, ⟨rfl, rfl⟩, by rw [List.drop_zero]; exact h5, fr0, by rw [List.length_set]; exact h3, ?_⟩, fun i m σ' H' n => forO_turn hJ hok h1 hi0 hg hB ht hA n⟩
    refine PF.from (Kp.refl _ _) ((Stp.refl H P _).mono (fun _ => Nat.le_refl _) fun c => ?_) q
    have := ts c
    simp; omega
  · exact q.elim
end
end VI
namespace VI
open PySem PySem.Spec PyProof.Rows L2
/-! ### x[k].append(v) -/
theorem RepL.focus {H : Hp} {P : Addr → Prop} : ∀ {ds : List D} {l : Lv} {xs : List V} {f : FP} {n : Nat} {d : D}, RepL H P ds l xs f → ds[n]? = some d →
    ∃ v gv gr, xs[n]? = some v ∧ RepD H P d l v gv ∧ f = fa gv gr ∧ ∀ {H' : Hp} {P' : Addr → Prop} {d' : D} {g' : FP}, Car H H' P P' gr → RepD H' P' d' l v g' → RepL H' P' (ds.set n d') l xs (fa g' gr)
  | [], _, _, _, _, _, _, e => by simp at e
  | d :: ds, l, _, _, 0, _, h, e => by
    obtain ⟨x, r, f1, f2, e1, h1, h2, e2⟩ := h
    subst e1 e2
    simp at e
    subst e
    exact ⟨x, f1, f2, rfl, h1, rfl, fun c q => ⟨x, r, _, f2, rfl, q, h2.car c, rfl⟩⟩
  | d :: ds, l, _, _, n + 1, _, h, e => by
    obtain ⟨x, r, f1, f2, e1, h1, h2, e2⟩ := h
    subst e1 e2
    obtain ⟨v, gv, gr, z1, z2, z3, z4⟩ := RepL.focus h2 (by simpa using e)
    subst z3
    refine ⟨v, gv, fa f1 gr, by simpa using z1, z2, by rw [← fa_assoc, fa_comm f1 gv, fa_assoc], fun {H' P' d' g'} c q => ?_⟩
    exact ⟨x, r, f1, fa g' gr, rfl, h1.car (c.mono fun a => by simp), z4 (c.mono fun a => by simp) q, by rw [← fa_assoc, fa_comm g' f1, fa_assoc]⟩
theorem stp_mut {H : Hp} {P : Addr → Prop} {T T' : FP} {b : Addr} {o o' : HO} (ha : H b = some o) (hn : isTup o = false) (hT : 1 ≤ T b) (h : ∀ a, T' a ≤ T a) : Stp H P T (upd H b o') P T' where
  keep := fun a u z y => by
    have : a ≠ b := fun e => by subst e; omega
    rw [upd_ne this]; exact z
  tups := fun a xs h => by
    have hb := rd_mut ha hn h
    rcases h with h | ⟨u, h⟩
    · exact .inl (by rw [upd_ne hb]; exact h)
    · exact .inr ⟨u, by rw [upd_ne hb]; exact h⟩
  newP := fun a z => .inl z
  oldP := fun a z => z
  newT := fun a z => .inl (Nat.le_trans z (h a))
  dom := fun a z => by
    by_cases e : a = b
    · subst e; rw [upd_same]; simp
    · rw [upd_ne e]; exact z
section
variable {K : PySem.W.Frag} {cs : CS} {W : WC} {Z : Ends} {A : List Nat} {σ : L2.St} {H : Hp}
theorem napp_read {i : Nat} {k a : E} (h : tS cs W A (.napp i k a) Z σ H) : tDrop (tBM K "list" rAppend (tOp (rIx K) (tVar i) (tI cs W k)) (tCons (tI cs W a) tNil)) Z σ H := by
  obtain ⟨e, P, F, S, q⟩ := h
  rw [exec] at q
  split at q
  case h_2 => exact q.elim
  rename_i ds hgs
  obtain ⟨p, xs, g, h1, h2, h3, h4, h5, h6, h7⟩ := S.lst hgs (by simp)
  have rel := Rels.kill (i := i) (some (V.ref p)) S.rel
  rw [set_get_self h1] at rel
  have ts : ∀ c, tot (F.set i fz) c + (fo p c + g c) = tot F c := fun c => by simpa using tot_set fz c h2
  have S0 : St0 σ (e.set i .none) H P (F.set i fz) := S.less rel fun c => by have := ts c; omega
  have fr0 : Frm (fa (fo p) g) H P (tot (F.set i fz)) := fun c z => by
    have y1 := ts c
    have y2 := S.one c
    simp at z
    refine ⟨by simp; omega, by omega, fun z' => by have := S.sep c z'; omega, S.inT c (by omega)⟩
  replace q := q.from (Kp.refl A σ) (T1 := fa (tot (F.set i fz)) (fa (fo p) g)) ((Stp.refl H P _).mono (fun _ => Nat.le_refl _) fun c => by have := ts c; simp; omega)
  refine ⟨.ref p, h1, e.set i .none, P, F.set i fz, S0, (PF.xf S0 fr0 q).mono fun w H1 ⟨y, e1, P1, F1, f1, S1, ry, fy, frk, car, q1⟩ => ?_⟩
  have fr1 : Frm (fa (fo p) g) H1 P1 (tot F1) := frk.less fun c => by simp
  split at q1
  case h_2 => exact q1.elim
  rename_i j hj
  obtain ⟨lj, gj, rj⟩ := deref_ok S1 ry hj
  obtain rfl := rep_int rj
  split at q1
  case h_2 => exact q1.elim
  rename_i ys hys
  have hp1 : H1 p = some (.lst xs) := car.own p _ (by simp [fo_same]) h4
  have rl1 : RepL H1 P1 ds .full xs g := h5.car (car.mono fun c => by simp)
  obtain ⟨n, hn, hdn⟩ : ∃ n, ixN ds.length j = some n ∧ ds[n]? = some (.lst ys) := Option.bind_eq_some_iff.mp hys
  obtain ⟨v, gv, gr, x1, x2, x3, x4⟩ := rl1.focus hdn
  subst x3
  obtain ⟨b, zs, gz, rfl, y1, y2⟩ := x2
  obtain ⟨hb, rfl⟩ : H1 b = some (.lst zs) ∧ gv = fa (fo b) gz := by
    rcases y2 with ⟨z, _⟩ | ⟨_, z1, z2⟩
    · cases z
    · exact ⟨z1, z2⟩
  have hxj : atI xs j = some (.ref b) := by
    unfold atI
    rw [rl1.len, hn]; exact x1
  refine .inl ⟨p, xs, j, .ref b, rfl, rfl, .inl (.inl hp1), hxj, .inl ⟨rfl, zs, .inl (.inl hb)⟩, ?_⟩
  replace q1 := PF.from (Kp.refl A σ) (T1 := fa (tot F1) (fa (fo p) (fa (fa (fo b) gz) gr))) ((Stp.refl H1 P1 _).mono (fun _ => Nat.le_refl _) fun c => by simp) q1
  refine ⟨e1, P1, F1, S1, (PF.xf S1 fr1 q1).mono fun u H2 ⟨x, e2, P2, F2, f2, S2, rx, fx, frk2, car2, q2⟩ => ?_⟩
  obtain ⟨d, l, e3, hu, q3⟩ := PF.use q2
  obtain ⟨P3, F3, f3, S3, r3, fr3, st3⟩ := use_ok S2 rx fx hu
  split at q3
  case isFalse => exact q3.elim
  rename_i hz
  obtain ⟨hl, hlen⟩ := hz
  have hl' : l = .full := hl
  subst hl'
  rw [hn] at q3
  have hb2 : H2 b = some (.lst zs) := car2.own b _ (by simp [fo_same] <;> omega) hb
  have y12 : RepL H2 P2 ys .full zs gz := y1.car (car2.mono fun c => by simp; omega)
  -- all that is owned beside, behind the use
  have frA : Frm (fa (fo p) (fa (fa (fo b) gz) gr)) H2 P3 (fa (tot F3) f3) := st3.frm frk2
  have hFb := frA b (by simp [fo_same] <;> omega)
  obtain ⟨w1, w2, w3, w4⟩ := hFb
  simp [fo_same] at w1 w2
  refine ⟨b, zs, u, rfl, rfl, hb2, by rw [y12.len]; exact hlen, ?_⟩
  have st3w := st3.wide (fa (fo p) (fa (fa (fo b) gz) gr))
  replace q3 := PF.from (Kp.refl A σ) (T1 := fa (tot F3) (fa f3 (fa (fo p) (fa (fa (fo b) gz) gr)))) (st3w.mono (fun c => by simp; omega) fun c => by simp; omega) q3
  have c5 : ∀ {gg : FP}, gg b = 0 → Car H2 (upd H2 b (.lst (zs ++ [u]))) P3 P3 gg := fun hg => car_mut hb2 rfl w3 hg
  have y13 : RepL H2 P3 ys .full zs gz := y12.car ⟨fun _ _ _ h => h, fun _ _ _ h => h, fun _ _ h => h, st3.oldP⟩
  have rn : RepD (upd H2 b (.lst (zs ++ [u]))) P3 (.lst (ys ++ [d])) .full (.ref b) (fa (fo b) (fa gz f3)) :=
    ⟨b, zs ++ [u], fa gz f3, rfl, (y13.car (c5 (by omega))).app ((RepL.one r3).car (c5 (by omega))), .inr ⟨by simp, upd_same, rfl⟩⟩
  have c15 : Car H1 (upd H2 b (.lst (zs ++ [u]))) P1 P3 gr := by
    have a1 := car2.mono (g := gr) fun c => by simp; omega
    have a2 : Car H2 (upd H2 b (.lst (zs ++ [u]))) P3 P3 gr := c5 (by omega)
    exact ⟨fun c o z y => a2.own c o z (a1.own c o z y), fun c o z y => a2.shr c o (st3.oldP c (a1.par c z)) (a1.shr c o z y), fun c o z => a2.tup c o (a1.tup c o z), fun c z => st3.oldP c (a1.par c z)⟩
  have rl5 := x4 c15 rn
  have hp5 : upd H2 b (.lst (zs ++ [u])) p = some (.lst xs) := by
    have : p ≠ b := fun e => by subst e; simp [fo_same] at w1
    rw [upd_ne this]; exact car2.own p _ (by simp [fo_same]) hp1
  have rd5 : RepD (upd H2 b (.lst (zs ++ [u]))) P3 (.lst (ds.set n (.lst (ys ++ [d])))) .full (.ref p) (fa (fo p) (fa (fa (fo b) (fa gz f3)) gr)) := ⟨p, xs, _, rfl, rl5, .inr ⟨by simp, hp5, rfl⟩⟩
  have dm : ∀ c, H2 c ≠ none → upd H2 b (.lst (zs ++ [u])) c ≠ none := fun c z => by
    by_cases e : c = b
    · subst e; rw [upd_same]; simp
    · rw [upd_ne e]; exact z
  have S5 : St0 σ e3 (upd H2 b (.lst (zs ++ [u]))) P3 F3 := ⟨S3.rel.car (c5 (by omega)), S3.one, S3.sep, fun c z => dm c (S3.inP c z), fun c z => dm c (S3.inT c z)⟩
  have fr5 : Frm (fa (fo p) (fa (fa (fo b) (fa gz f3)) gr)) (upd H2 b (.lst (zs ++ [u]))) P3 (tot F3) := fun c z => by
    simp at z
    by_cases z' : 1 ≤ fa (fo p) (fa (fa (fo b) gz) gr) c
    · obtain ⟨x1, x2, x3, x4⟩ := frA c z'
      simp at x1 x2 ⊢
      exact ⟨by omega, by omega, x3, dm c x4⟩
    · simp at z'
      obtain ⟨x1, x2, x3, x4⟩ := fr3 c (by omega)
      refine ⟨by simp; omega, x2, x3, dm c x4⟩
  have hi : i < e3.length := by
    have l1 := S3.rel.len.1
    have := (List.getElem?_eq_some_iff.mp h1).1
    omega
  obtain ⟨S6, t6⟩ := S5.bind rd5 fr5 hi
  rw [set_get_self h1] at S6
  refine q3 σ _ P3 _ (Kp.refl _ _) S6 ?_
  refine stp_mut hb2 rfl (by simp [fo_same] <;> omega) fun c => ?_
  have := t6 c
  simp at this ⊢
  omega
end
end VI
namespace VI
open PySem PySem.Spec PyProof.Rows L2
/-! ### statements: the checker -/
def vNameP : Expr → Option (Str × Pos)
  | .Name x p => some (x, p) | _ => none
def vCompP : Expr → Option (Expr × Expr × Expr × List Expr × Scope × Pos)
  | .ListComp e [⟨t, i, fs, 0⟩] s p => some (e, t, i, fs, s, p) | _ => none
def swB (sc : Scope) (y : Str) (py : Pos) (scope : Scope) (pos : Pos) : Bool := decide (sc.names.lookup y = some .local) && (py.line == pos.line) && !(scope.names.any fun (n, k) => n == y && (k == .local || k == .cell))
theorem swW_name {elt : Expr} {gs : List Comprehension} {scope : Scope} {pos py : Pos} {y : Str} {l : Nat} {env : PySem.Env} (hk : env.scope.kind = .function) : swapsWith (.ListComp elt gs scope pos) (some (.Name y py)) l env = pure (swB env.scope y py scope pos) := by
  have hb : env.blockKind = .function := by unfold Env.blockKind; rw [hk]; rfl
  unfold swapsWith swB Env.kindOf
  simp only [hb, Expr.pos, pure_bind]
  by_cases h : env.scope.names.lookup y = some .local
  · rw [h]; simp
  · have h2 : (env.scope.names.lookup y == some NameKind.local) = false := by rw [beq_eq_false_iff_ne]; exact h
    rw [h2, decide_eq_false h]; simp
def vAsg : Stmt → Option (Expr × Expr)
  | .Assign [t] e _ => some (t, e) | _ => none
def vExp : Stmt → Option Expr
  | .Expr e _ => some e | _ => none
def vRet : Stmt → Option (Option Expr)
  | .Return e _ => some e | _ => none
def vIfS : Stmt → Option (Expr × List Stmt × List Stmt)
  | .If c a b _ => some (c, a, b) | _ => none
def vWhl : Stmt → Option (Expr × List Stmt)
  | .While c b [] _ => some (c, b) | _ => none
def vFor : Stmt → Option (Expr × Expr × List Stmt)
  | .For t i b [] _ => some (t, i, b) | _ => none
def vAug : Stmt → Option (Expr × Operator × Expr)
  | .AugAssign t o e _ => some (t, o, e) | _ => none
def isPass : Stmt → Bool
  | .Pass _ => true | _ => false
def isBrk : Stmt → Bool
  | .Break _ => true | _ => false
section
variable {st : Stmt} {e t i c : Expr} {a b : List Stmt}
theorem vNameP_ok {x : Str} {p : Pos} (h : vNameP e = some (x, p)) : e = .Name x p := by cases e <;> first | (cases h; rfl) | cases h
theorem vCompP_ok {x : Expr} {fs : List Expr} {s : Scope} {p : Pos} (h : vCompP e = some (x, t, i, fs, s, p)) : e = .ListComp x [⟨t, i, fs, 0⟩] s p := by
  unfold vCompP at h
  split at h
  · cases h; rfl
  · cases h
theorem vAsg_ok (h : vAsg st = some (t, e)) : ∃ p, st = .Assign [t] e p := by
  unfold vAsg at h
  split at h
  · cases h; exact ⟨_, rfl⟩
  · cases h
theorem vExp_ok (h : vExp st = some e) : ∃ p, st = .Expr e p := by cases st <;> first | (cases h; exact ⟨_, rfl⟩) | cases h
theorem vRet_ok {e : Option Expr} (h : vRet st = some e) : ∃ p, st = .Return e p := by cases st <;> first | (cases h; exact ⟨_, rfl⟩) | cases h
theorem vIfS_ok (h : vIfS st = some (c, a, b)) : ∃ p, st = .If c a b p := by cases st <;> first | (cases h; exact ⟨_, rfl⟩) | cases h
theorem vWhl_ok (h : vWhl st = some (c, b)) : ∃ p, st = .While c b [] p := by
  unfold vWhl at h
  split at h
  · cases h; exact ⟨_, rfl⟩
  · cases h
theorem vFor_ok (h : vFor st = some (t, i, b)) : ∃ p, st = .For t i b [] p := by
  unfold vFor at h
  split at h
  · cases h; exact ⟨_, rfl⟩
  · cases h
theorem vAug_ok {o : Operator} (h : vAug st = some (t, o, e)) : ∃ p, st = .AugAssign t o e p := by cases st <;> first | (cases h; exact ⟨_, rfl⟩) | cases h
theorem isPass_ok (h : isPass st = true) : ∃ p, st = .Pass p := by cases st <;> first | (exact ⟨_, rfl⟩) | cases h
theorem isBrk_ok (h : isBrk st = true) : ∃ p, st = .Break p := by cases st <;> first | (exact ⟨_, rfl⟩) | cases h
end
/-- a store to a[i] -/
def vSubN (e : Expr) : Option (Str × Expr) := match vSub e with
  | some (o, i) => (match vName o with
    | some x => if plX i then some (x, i) else none
    | none => none)
  | none => none
theorem vSubN_ok {e i : Expr} {x : Str} (h : vSubN e = some (x, i)) : ∃ p p2, e = .Subscript (.Name x p) i p2 ∧ plX i = true := by
  unfold vSubN at h
  split at h
  · rename_i o j ho
    obtain ⟨p2, rfl⟩ := vSub_ok ho
    split at h
    · rename_i y hy
      obtain ⟨p, rfl⟩ := vName_ok hy
      split at h
      · rename_i hp
        cases h
        exact ⟨p, p2, rfl, hp⟩
      · cases h
    · cases h
  · cases h
theorem asub {o i : Expr} {pos : Pos} {env : PySem.Env} (h : plX i = true) (v : Value) : assign (.Subscript o i pos) env v = (do
      let ov ← holding [v] (eval o env)
      let iv ← holding [v, ov] (eval i env)
      standAt pos
      holding [v, ov, iv] (setItem ov iv v)
      release [v, ov, iv] []) := by
  cases i <;> first | rfl | cases h
theorem bindG_two {a b : G} {ds : List D} {l : Lv} {e e' : Env} (h : bindG (.two a b) (.tup ds) l e = some e') : ∃ d1 d2 e1, ds = [d1, d2] ∧ bindG a d1 l.pred e = some e1 ∧ bindG b d2 l.pred e1 = some e' := by
  match ds, h with
  | [d1, d2], h =>
    obtain ⟨e1, b1, b2⟩ := Option.bind_eq_some_iff.mp (show (bindG a d1 l.pred e).bind (fun e1 => bindG b d2 l.pred e1) = some e' by simpa only [bindG] using h)
    exact ⟨d1, d2, e1, rfl, b1, b2⟩
  | [], h => simp [bindG] at h
  | [_], h => simp [bindG] at h
  | _ :: _ :: _ :: _, h => simp [bindG] at h
section
variable {X : Cx} {c : CC} {k : Nat} {cv : Str → Value} {W : WC} {A B : List Nat} {cs : CS} {ma mb mk : E} {a b e : Expr} {pos p p2 ap : Pos} {x : Str} {i : Nat}
theorem ps_ofX {st : Stmt} {t : TS} {m : S} (h : PS X st t) (r : ∀ Z σ H, tS cs W A m Z σ H → t Z σ H) : PS X st (tS cs W A m) := ps_imp h r
theorem snd_bad {st : Stmt} : PS X st (tS cs W A .bad) := ⟨fun pins s σ H D I q => by
  obtain ⟨e, P, F, S, z⟩ := q
  rw [exec] at z
  exact z.elim⟩
theorem snd_asg {g : G} {t : Expr} (ha : Snd X cs W ma a) (hg : PG X t (tGr X.K g)) (hA : ∀ j ∈ g.slots, j ∈ A) (pt : plX t = true) (hs : ∀ l, swapsWith a (some t) l X.env = pure false) (hw : swappedStores [t] a X.env = pure none) : PS X (.Assign [t] a pos) (tS cs W A (.asg g ma)) :=
  ps_imp (ps_asg ha.pe hg (hs _) hw (by rw [as_false pt]; rfl)) fun Z σ H h => asg_read hA h
theorem snd_par {j : Nat} {y : Str} {py pt pt2 : Pos} {kt k2 : Nat} (hc : X.calm = true) (hN : X.N.Nodup) (hi : X.N[i]? = some x) (hj : X.N[j]? = some y) (hij : i ≠ j) (hk : X.env.scope.kind = .function)
    (hx : X.env.scope.names.lookup x = some .local) (hy : X.env.scope.names.lookup y = some .local) (ha : Snd X cs W ma a) (hb : Snd X cs W mb b) (hl : (py.line == p.line) = true) (hf : [a, b].all (foldedForSure 8) = false) (hcn : [a, b].all (constantsAlone 8) = false)
    (hA : i ∈ A ∧ j ∈ A) : PS X (.Assign [.Tuple [.Name x p, .Name y py] kt pt] (.Tuple [a, b] k2 pt2) pos) (tS cs W A (.asg (.two (.nm i) (.nm j)) (.tup (.cons ma (.cons mb .nil))))) := by
  have hxy : x ≠ y := fun e => hij (by
    subst e
    obtain ⟨h1, e1⟩ := List.getElem?_eq_some_iff.mp hi
    obtain ⟨h2, e2⟩ := List.getElem?_eq_some_iff.mp hj
    exact (List.getElem_inj hN).mp (e1.trans e2.symm))
  refine ps_imp (ps_par hc hN hi hj hij hx hy (snd_cons ha (snd_cons hb snd_nil)).pa (swS_names hk hx hy hl hxy ha.pl hb.pl hf hcn)) fun Z σ H h => ?_
  obtain ⟨e, P, F, S, q⟩ := h
  rw [exec, evalE] at q
  refine ⟨e, P, F, S, ?_⟩
  cases ea : evalEs cs (.cons ma (.cons mb .nil)) e with
  | stk => rw [ea] at q; exact q
  | exc c' e1 =>
    rw [ea] at q
    exact fun H' P' F' S' st => q σ H' P' F' (Kp.refl _ _) S' st
  | ok xs e1 =>
    rw [ea] at q
    intro vs H1 P1 F1 f S1 rx fr st
    replace q : PF W Z A σ H P (tot F) (((uses xs e1).bind fun ps e2 => if ps.length ≤ sizeLine then .ok (mkT (ps.map (·.1)) (lall ps)) e2 else .stk).fl fun x e1 => (use e1 x).fl fun p e2 => nxO (bindG (.two (.nm i) (.nm j)) p.1 p.2 e2)) := q
    replace q := q.from (Kp.refl _ _) st
    cases eu : uses xs e1 with
    | stk => rw [eu] at q; exact q.elim
    | exc c' e2 => exact (uses_exc eu).elim
    | ok ps e2 =>
      rw [eu] at q
      replace q : PF W Z A σ H1 P1 (fa (tot F1) f) ((if ps.length ≤ sizeLine then R.ok (mkT (ps.map (·.1)) (lall ps)) e2 else .stk).fl fun x e1 => (use e1 x).fl fun p e2 => nxO (bindG (.two (.nm i) (.nm j)) p.1 p.2 e2)) := q
      split at q
      case isFalse => exact q.elim
      obtain ⟨P2, F2, f2, S2, q2, fr2, st2⟩ := uses_ok S1 rx fr eu
      replace q := q.from (Kp.refl _ _) st2
      replace q : PF W Z A σ H1 P2 (fa (tot F2) f2) (nxO (bindG (.two (.nm i) (.nm j)) (.tup (ps.map (·.1))) (if imm (.tup (ps.map (·.1))) then Lv.full else lall ps) e2)) := q
      obtain ⟨e3, hb3, q⟩ := PF.nxO q
      obtain ⟨d1, d2, e4, hps, b1, b2⟩ := bindG_two hb3
      rw [hps] at q2
      obtain ⟨v1, xs1, f3, g3, rfl, r1, ⟨v2, xs2, f4, g4, rfl, r2, ⟨rfl, rfl⟩, rfl⟩, rfl⟩ := q2
      rw [fa_z] at fr2 q
      have hq1 : (if imm (.tup (ps.map (·.1))) then Lv.full else lall ps).pred = lall ps ∨ (imm d1 = true ∧ imm d2 = true) := by
        rw [hps]
        by_cases hi : imm (.tup [d1, d2]) = true
        · right
          have : imm d1 = true ∧ (imm d2 = true ∧ True) := by simpa [imm, immL] using hi
          exact ⟨this.1, this.2.1⟩
        · left
          rw [if_neg hi]
          have := lall_ne ps
          cases hl : lall ps <;> first | rfl | exact absurd hl this
      have lift : ∀ {d : D} {v : V} {f : FP}, (imm d1 = true ∧ imm d2 = true → imm d = true) → RepD H1 P2 d (lall ps) v f → ∃ f', RepD H1 P2 d (if imm (.tup (ps.map (·.1))) then Lv.full else lall ps).pred v f' ∧ ∀ c, f' c ≤ f c := fun {d v f} hd r => by
        rcases hq1 with h | h
        · rw [h]; exact ⟨f, r, fun _ => Nat.le_refl _⟩
        · exact ⟨fz, (RepD.imm (P' := P2) _ (hd h) r).2, fun c => by simp⟩
      obtain ⟨f3', r1', l3⟩ := lift (fun h => h.1) r1
      obtain ⟨f4', r2', l4⟩ := lift (fun h => h.2) r2
      refine ⟨v1, v2, rfl, ?_⟩
      have fin : tGr X.K (.nm i) v1 σ H1 fun σ1 H1' => tGr X.K (.nm j) v2 σ1 H1' fun σ2 H2 => Z.nx σ2 H2 := by
        refine bind_ok (.nm i) S2 r1' (fr2.fst.mono l3) b1 fun σ1 F3 S3 t3 k3 => ?_
        have frj : Frm f4' H1 P2 (tot F3) := fun c z => by
          have h1 := l4 c
          have h2 := l3 c
          have h3 := t3 c
          obtain ⟨z1, z2, z3, z4⟩ := fr2.right c (by omega)
          simp at z2
          exact ⟨by omega, by omega, z3, z4⟩
        refine bind_ok (.nm j) S3 r2' frj b2 fun σ2 F4 S4 t4 k4 => ?_
        refine q σ2 H1 P2 F4 (fun n hn => ?_) S4 ((Stp.refl H1 P2 _).mono (fun _ => Nat.le_refl _) fun c => by have := t3 c; have := t4 c; have := l3 c; have := l4 c; simp; omega)
        have n1 : n ∉ (G.nm i).slots := fun z => hn (by rw [List.mem_singleton.mp z]; exact hA.1)
        have n2 : n ∉ (G.nm j).slots := fun z => hn (by rw [List.mem_singleton.mp z]; exact hA.2)
        rw [k4 n n2, k3 n n1]
      exact fin
theorem snd_setI (hu : X.A.units + 1 < cLine) (hN : X.N[i]? = some x) (hv : Vis X.env.scope x) (hd : (x == ("__debug__" : Str)) = false) (hcd : (x == ("__classdict__" : Str)) = false) (pb : plX b = true) (ha : Snd X cs W ma a) (hb : Snd X cs W mb b) :
    PS X (.Assign [.Subscript (.Name x p) b p2] a pos) (tS cs W A (.setI i mb ma)) :=
  ps_imp (ps_asg ha.pe (pg_sub (pe_var hN hv hd hcd) hb.pe (set_any hu) (asub pb)) (show swapsWith a (some (.Subscript (.Name x p) b p2)) pos.line X.env = pure false from swW_tup rfl) (swS_t rfl rfl)) fun Z σ H h => setI_read h
theorem snd_set2 {j : Nat} {y : Str} {u w : Expr} {mk ml : E} {p3 p4 p5 p6 : Pos} {k1 k2 : Nat} (hc : X.calm = true) (hu : X.A.units + 1 < cLine) (hN : X.N[i]? = some x) (hv : Vis X.env.scope x) (hd : (x == ("__debug__" : Str)) = false) (hcd : (x == ("__classdict__" : Str)) = false)
    (hN' : X.N[j]? = some y) (hv' : Vis X.env.scope y) (hd' : (y == ("__debug__" : Str)) = false) (hcd' : (y == ("__classdict__" : Str)) = false) (pu : plX u = true) (pw : plX w = true) (ha : Snd X cs W ma a) (hb : Snd X cs W mb b) (hk : Snd X cs W mk u) (hl : Snd X cs W ml w) :
    PS X (.Assign [.Tuple [.Subscript (.Name x p) u p2, .Subscript (.Name y p3) w p4] k1 p5] (.Tuple [a, b] k2 p6) pos) (tS cs W A (.set2 i mk j ml ma mb)) :=
  ps_imp (ps_asg (snd_tup (snd_cons ha (snd_cons hb snd_nil))).pe (pg_tup (n := 2) hc (pgs_cons (pg_sub (pe_var hN hv hd hcd) hk.pe (set_any hu) (asub pu)) (pgs_cons (pg_sub (pe_var hN' hv' hd' hcd') hl.pe (set_any hu) (asub pw)) pgs_nil)))
    (show swapsWith (.Tuple [a, b] k2 p6) (some (.Tuple [.Subscript (.Name x p) u p2, .Subscript (.Name y p3) w p4] k1 p5)) pos.line X.env = pure false from swW_tup rfl) (swS_two (.inl rfl))) fun Z σ H h => set2_read h
theorem snd_aug (hN : X.N.Nodup) (hi : X.N[i]? = some x) (hx : L2.Loc X.env.scope x) (hf : X.fn x = true ∨ X.env.scope.names.lookup x = some .local) (ha : Snd X cs W ma a) (hA : i ∈ A) : PS X (.AugAssign (.Name x p) .Add a pos) (tS cs W A (.aug i ma)) :=
  ps_imp (ps_aug hN hi hx ha.pe ip_add hf) fun Z σ H h => aug_read hA h
theorem snd_ret (ha : Snd X cs W ma a) : PS X (.Return (some a) pos) (tS cs W A (.ret ma)) := ps_imp (ps_ret ha.pe) fun Z σ H h => ret_read h
theorem snd_rtn : PS X (.Return none pos) (tS cs W A .rtn) := ps_imp ps_retN fun Z σ H h => retN_read h
theorem snd_ex (ha : Snd X cs W ma a) (hc : isComp a = false) : PS X (.Expr a pos) (tS cs W A (.ex ma)) := ps_imp (ps_expr ha.pe (swW_no hc _ _ _)) fun Z σ H h => ex_read h
theorem snd_ifS {s1 s2 : Ss} {l1 l2 : List Stmt} (hc : Snd X cs W ma a) (h1 : isIf a = false) (ha : PSs X l1 (tSs cs W A s1)) (hb : PSs X l2 (tSs cs W A s2)) : PS X (.If a l1 l2 pos) (tS cs W A (.ite ma s1 s2)) := ps_imp (ps_if (hc.pt h1) ha hb) fun Z σ H h => ite_read h
theorem snd_whl {s1 : Ss} {l1 : List Stmt} (hp : PassesOwn (model X.prog X.w) X.A X.env X.xe) (hc : Snd X cs W ma a) (h1 : isIf a = false) (ha : PSs X l1 (tSs cs W A s1)) : PS X (.While a l1 [] pos) (tS cs W A (.whl ma s1)) := ps_imp (ps_while hp (hc.pt h1) ha) fun Z σ H h => whl_read (fun _ h => h) h
theorem evalI_hid {it : VI.It} {e e1 : Env} {ps : List (D × Lv)} {j : Nat} {s : Slot} (h : evalI cs it e = .ok (ps, some (j, s)) e1) : it = .hid j := by
  cases it with
  | hid i =>
    rw [evalI] at h
    split at h
    · split at h
      · cases h
      · split at h
        · cases h; rfl
        · cases h; rfl
    · cases h
  | val a =>
    rw [evalI] at h
    exfalso
    revert h
    cases evalE cs a e with
    | stk => intro h; cases h
    | exc _ _ => intro h; cases h
    | ok x e1 =>
      show (use e1 x).bind _ = _ → _
      cases use e1 x with
      | stk => intro h; cases h
      | exc _ _ => intro h; cases h
      | ok p e2 =>
        show ofO _ _ = _ → _
        cases walkD p.1 p.2 with
        | none => intro h; cases h
        | some _ => intro h; cases h
  | rng es =>
    rw [evalI] at h
    exfalso
    revert h
    cases evalEs cs es e with
    | stk => intro h; cases h
    | exc _ _ => intro h; cases h
    | ok x e1 =>
      show ofO _ _ = _ → _
      cases (derefs e1 x).bind rangeOf with
      | none => intro h; cases h
      | some _ => intro h; cases h
  | enu a =>
    rw [evalI] at h
    exfalso
    revert h
    cases evalE cs a e with
    | stk => intro h; cases h
    | exc _ _ => intro h; cases h
    | ok x e1 =>
      show (use e1 x).bind _ = _ → _
      cases use e1 x with
      | stk => intro h; cases h
      | exc _ _ => intro h; cases h
      | ok p e2 =>
        show ofO _ _ = _ → _
        cases walkS p.1 p.2 with
        | none => intro h; cases h
        | some _ => intro h; cases h
  | ehid i => rw [evalI] at h; cases h
  | rvd a =>
    rw [evalI] at h
    exfalso
    revert h
    cases evalE cs a e with
    | stk => intro h; cases h
    | exc _ _ => intro h; cases h
    | ok x e1 =>
      show (use e1 x).bind _ = _ → _
      cases use e1 x with
      | stk => intro h; cases h
      | exc _ _ => intro h; cases h
      | ok p e2 =>
        show ofO _ _ = _ → _
        cases walkS p.1 p.2 with
        | none => intro h; cases h
        | some _ => intro h; cases h
  | zip a b =>
    rw [evalI] at h
    exfalso
    revert h
    cases evalE cs a e with
    | stk => intro h; cases h
    | exc _ _ => intro h; cases h
    | ok x e1 =>
      show (evalE cs b e1).bind _ = _ → _
      cases evalE cs b e1 with
      | stk => intro h; cases h
      | exc _ _ => intro h; cases h
      | ok y e2 =>
        show (uses [x, y] e2).bind _ = _ → _
        cases uses [x, y] e2 with
        | stk => intro h; cases h
        | exc _ _ => intro h; cases h
        | ok ps' e3 =>
          show (match ps' with | [p, q] => ofO ((zipW (lall ps') p.1 q.1).map fun ps => (ps, none)) e3 | _ => .stk) = _ → _
          split
          · rename_i p q
            cases zipW (lall [p, q]) p.1 q.1 with
            | none => intro h; cases h
            | some _ => intro h; cases h
          · intro h; cases h
def hidOf : VI.It → List Nat
  | .hid i => [i]
  | _ => []
theorem snd_for {g : G} {it : VI.It} {s1 : Ss} {l1 : List Stmt} {tg iter : Expr} (hp : PassesOwn (model X.prog X.w) X.A X.env X.xe) (hc : X.calm = true) (hi : SndI X cs W it tg iter) (hg : PG X tg (tGr X.K g)) (hb : PSs X l1 (tSs cs W B s1))
    (hG : ∀ j ∈ g.slots, j ∈ B) (hA : ∀ j ∈ B, j ∈ A) (ho : ∀ j ∈ hidOf it, j ∉ B) : PS X (.For tg iter l1 [] pos) (tS cs W A (.for g it s1)) :=
  ps_imp (ps_for hp hc hi.pi hg hb hi.fo) fun Z σ H h => for_read (fun e ps j s e1 he => by
    have := evalI_hid he
    subst this
    exact ho j (List.mem_singleton.mpr rfl)) hG hA h
theorem snd_app (hN : X.N[i]? = some x) (hv : Vis X.env.scope x) (hd : (x == ("__debug__" : Str)) = false) (hcd : (x == ("__classdict__" : Str)) = false) (ha : Snd X cs W ma a) (hl : (ap.endLine == p2.line) = true) :
    PS X (.Expr (.Call (.Attribute (.Name x p) "append" ap) [a] [] p2) pos) (tS cs W A (.app i ma)) :=
  have pl : ∀ y ∈ [a], plX y = true := fun y hy => by rw [List.mem_singleton.mp hy]; exact ha.pl
  ps_imp (ps_expr (pe_bm PySem.F.plainAttrs_list PySem.F.slot_list_append PySem.F.type_list_append mt_append (pe_var hN hv hd hcd) (pa_cons ha.pe pa_nil (plX_star ha.pl _ _)) (naB_ok rfl _ _ _) (plX_few _ _ pl (by simp)) hl (plX_star ha.pl _ _) rfl)) fun Z σ H h => app_read h
theorem snd_ext (hN : X.N[i]? = some x) (hv : Vis X.env.scope x) (hd : (x == ("__debug__" : Str)) = false) (hcd : (x == ("__classdict__" : Str)) = false) (ha : Snd X cs W ma a) (hl : (ap.endLine == p2.line) = true) :
    PS X (.Expr (.Call (.Attribute (.Name x p) "extend" ap) [a] [] p2) pos) (tS cs W A (.ext i ma)) :=
  have pl : ∀ y ∈ [a], plX y = true := fun y hy => by rw [List.mem_singleton.mp hy]; exact ha.pl
  ps_imp (ps_expr (pe_bm PySem.F.plainAttrs_list PySem.F.slot_list_extend PySem.F.type_list_extend mt_extR (pe_var hN hv hd hcd) (pa_cons ha.pe pa_nil (plX_star ha.pl _ _)) (naB_ok rfl _ _ _) (plX_few _ _ pl (by simp)) hl (plX_star ha.pl _ _) rfl)) fun Z σ H h => ext_read h
theorem snd_rem (hN : X.N[i]? = some x) (hv : Vis X.env.scope x) (hd : (x == ("__debug__" : Str)) = false) (hcd : (x == ("__classdict__" : Str)) = false) (ha : Snd X cs W ma a) (hl : (ap.endLine == p2.line) = true) :
    PS X (.Expr (.Call (.Attribute (.Name x p) "remove" ap) [a] [] p2) pos) (tS cs W A (.rem i ma)) :=
  have pl : ∀ y ∈ [a], plX y = true := fun y hy => by rw [List.mem_singleton.mp hy]; exact ha.pl
  ps_imp (ps_expr (pe_bm PySem.F.plainAttrs_list PySem.F.slot_list_remove PySem.F.type_list_remove mt_remove (pe_var hN hv hd hcd) (pa_cons ha.pe pa_nil (plX_star ha.pl _ _)) (naB_ok rfl _ _ _) (plX_few _ _ pl (by simp)) hl (plX_star ha.pl _ _) rfl)) fun Z σ H h => rem_read h
theorem snd_ins (hN : X.N[i]? = some x) (hv : Vis X.env.scope x) (hd : (x == ("__debug__" : Str)) = false) (hcd : (x == ("__classdict__" : Str)) = false) (hk : Snd X cs W mb b) (ha : Snd X cs W ma a) (hl : (ap.endLine == p2.line) = true) :
    PS X (.Expr (.Call (.Attribute (.Name x p) "insert" ap) [b, a] [] p2) pos) (tS cs W A (.ins i mb ma)) :=
  have pl : ∀ y ∈ [b, a], plX y = true := fun y hy => by
    rcases List.mem_cons.mp hy with rfl | hy
    · exact hk.pl
    · rw [List.mem_singleton.mp hy]; exact ha.pl
  ps_imp (ps_expr (pe_bm PySem.F.plainAttrs_list PySem.F.slot_list_insert PySem.F.type_list_insert mt_insert (pe_var hN hv hd hcd) (pa_cons hk.pe (pa_cons ha.pe pa_nil (plX_star ha.pl _ _)) (plX_star hk.pl _ _)) (naB_ok rfl _ _ _) (plX_few _ _ pl (by simp)) hl (plX_star hk.pl _ _) (plX_any (fun y hy => by rw [List.mem_singleton.mp hy]; exact ha.pl) _ _))) fun Z σ H h => ins_read h
theorem snd_rvs (hN : X.N[i]? = some x) (hv : Vis X.env.scope x) (hd : (x == ("__debug__" : Str)) = false) (hcd : (x == ("__classdict__" : Str)) = false) (hl : (ap.endLine == p2.line) = true) :
    PS X (.Expr (.Call (.Attribute (.Name x p) "reverse" ap) [] [] p2) pos) (tS cs W A (.rvs i)) :=
  ps_imp (ps_expr (pe_bm0 PySem.F.plainAttrs_list PySem.F.slot_list_reverse PySem.F.type_list_reverse mt_reverse (pe_var hN hv hd hcd) (naB_ok rfl _ _ _) hl)) fun Z σ H h => rvs_read h
theorem snd_clr (hN : X.N[i]? = some x) (hv : Vis X.env.scope x) (hd : (x == ("__debug__" : Str)) = false) (hcd : (x == ("__classdict__" : Str)) = false) (hl : (ap.endLine == p2.line) = true) :
    PS X (.Expr (.Call (.Attribute (.Name x p) "clear" ap) [] [] p2) pos) (tS cs W A (.clr i)) :=
  ps_imp (ps_expr (pe_bm0 PySem.F.plainAttrs_list PySem.F.slot_list_clear PySem.F.type_list_clear mt_clear (pe_var hN hv hd hcd) (naB_ok rfl _ _ _) hl)) fun Z σ H h => clr_read h
/-! own loops, x[k].append(v) -/
theorem snd_napp {kx : Expr} {mk : E} {p3 : Pos} (hN : X.N[i]? = some x) (hv : Vis X.env.scope x) (hd : (x == ("__debug__" : Str)) = false) (hcd : (x == ("__classdict__" : Str)) = false) (hk : Snd X cs W mk kx) (ha : Snd X cs W ma a) (hl : (ap.endLine == p2.line) = true) :
    PS X (.Expr (.Call (.Attribute (.Subscript (.Name x p) kx p3) "append" ap) [a] [] p2) pos) (tS cs W A (.napp i mk ma)) :=
  have pl : ∀ y ∈ [a], plX y = true := fun y hy => by rw [List.mem_singleton.mp hy]; exact ha.pl
  ps_imp (ps_expr (pe_bm PySem.F.plainAttrs_list PySem.F.slot_list_append PySem.F.type_list_append mt_append (pe_ix ix_seq (pe_var hN hv hd hcd) hk.pe (plX_ix hk.pl)) (pa_cons ha.pe pa_nil (plX_star ha.pl _ _)) (naB_ok rfl _ _ _) (plX_few _ _ pl (by simp)) hl (plX_star ha.pl _ _) rfl)) fun Z σ H h => napp_read h
theorem snd_forO {h : Sh} {s1 : Ss} {l1 : List Stmt} {tg iter : Expr} {i0 : Nat} {M : List Nat} (hp : PassesOwn (model X.prog X.w) X.A X.env X.xe) (hc : X.calm = true) (hi : PI X tg iter (tOwnIt i0 h.isEn)) (hf : ∀ x, foldedSetIterable iter X.env x = pure x) (hg : PG X tg (tGr X.K h.g)) (hb : PSs X l1 (tSs cs W B s1))
    (hok : h.ok = true) (hi0 : i0 ∉ M) (hgM : ∀ j ∈ h.g.slots, j ∈ M) (hB : ∀ j ∈ B, j ∈ M) (ht : h.t ∉ B) (hA : ∀ j ∈ M, j ∈ A) : PS X (.For tg iter l1 [] pos) (tS cs W A (.forO h i0 s1)) :=
  ps_imp (ps_for hp hc hi hg hb hf) fun Z σ H q => forO_read (K := X.K) hok hi0 hgM hB ht hA q
theorem own_name {tg : Expr} {i0 : Nat} (hN : X.N[i0]? = some x) (hv : Vis X.env.scope x) (hd : (x == ("__debug__" : Str)) = false) (hcd : (x == ("__classdict__" : Str)) = false) : PI X tg (.Name x p) (tOwnIt i0 false) :=
  pi_imp (pi_any (pe_var hN hv hd hcd)) fun σ H Q ⟨a, xs, h1, h2, k⟩ => ⟨.ref a, h1, .inl ⟨a, xs, rfl, .inl ⟨.inl (.inl h2), k _ (ownJ_l a xs)⟩⟩⟩
theorem own_enum {elts : List Expr} {kk : Nat} {tpos p3 : Pos} {i0 : Nat} (g1 : Gl X "enumerate") (m1 : X.mg "enumerate" = none) (hN : X.N[i0]? = some x) (hv : Vis X.env.scope x) (hd : (x == ("__debug__" : Str)) = false) (hcd : (x == ("__classdict__" : Str)) = false) :
    PI X (.Tuple elts kk tpos) (.Call (.Name "enumerate" p) [.Name x p2] [] p3) (tOwnIt i0 true) :=
  pi_imp (pi_enumA g1 m1 (pe_var hN hv hd hcd) rfl) fun σ H Q ⟨a, xs, h1, h2, k⟩ => ⟨.ref a, h1, a, xs, rfl, .inl ⟨.inl (.inl h2), k _ (ownJ_e a xs)⟩⟩
end
end VI
namespace VI
open PySem PySem.Spec PyProof.Rows L2
section
variable {X : Cx} {cs : CS} {W : WC} {g : G} {it : VI.It} {c : Eo} {elt : E} {A : List Nat}
theorem snd_setLc {i : Nat} {y : Str} {py spos pos : Pos} {e tg iter : Expr} {ifs : List Expr} {scope : Scope} {ownP : List (Str × Nat)} (hc : X.calm = true) (hN : X.N.Nodup) (hy : X.N[i]? = some y) (hyl : X.env.scope.names.lookup y = some .local)
    (hsw : swapsWith (.ListComp e [⟨tg, iter, ifs, 0⟩] scope pos) (some (.Name y py)) spos.line X.env = pure true) (hi : SndI X cs W it tg iter) (ok : BlkOk X.N X.env.scope scope ownP)
    (hg : ∀ (s : Shared) (H : Hp) (C : Addr) (cl : List (Str × Addr)) (fp : List Addr), PG (X.blk s H scope (compEnvC scope cl C X.env) fp) tg (tGr X.K g)) (ht : ∀ (s : Shared) (H : Hp) (C : Addr) (cl : List (Str × Addr)) (fp : List Addr), PTs (X.blk s H scope (compEnvC scope cl C X.env) fp) ifs (tTO cs WF c))
    (he : ∀ (s : Shared) (H : Hp) (C : Addr) (cl : List (Str × Addr)) (fp : List Addr), PE (X.blk s H scope (compEnvC scope cl C X.env) fp) e (tI cs WF elt)) (sub : ∀ j ∈ g.slots, j ∈ ownP.map (·.2)) (hA : i ∈ A) :
    PS X (.Assign [.Name y py] (.ListComp e [⟨tg, iter, ifs, 0⟩] scope pos) spos) (tS cs W A (.asg (.nm i) (.comp g (ownP.map (·.2)) it c elt))) :=
  ps_imp (ps_setLc hc hN hy hyl hsw hi.pi ok hg ht he hi.fo) fun Z σ H h =>
    comp_read (K := X.K) sub (asg_read (K := X.K) (fun j hj => by rw [List.mem_singleton.mp hj]; exact hA) h)
end
def isCompM : E → Bool
  | .comp .. => true | _ => false
def subA (l A : List Nat) : Bool := l.all fun j => decide (j ∈ A)
theorem subA_ok {l A : List Nat} (h : subA l A = true) : ∀ j ∈ l, j ∈ A := fun j hj => of_decide_eq_true (List.all_eq_true.mp h j hj)
/-- target = value -/
def okA (c : CC) (A : List Nat) (g : G) (m : E) (t e : Expr) : Bool := match vNameP t with
  | some (y, py) => (match g with
    | .nm i => okSto c i y && decide (i ∈ A) && (match vCompP e with
      | some (_, _, _, _, scope, pos) => if swB c.sc y py scope pos then isCompM m && okE c m e else okE c m e
      | none => !isComp e && okE c m e)
    | _ => false)
  | none => (match vTuple t, vTuple e with
    | some [x, y], some [a, b] => (match vNameP x, vNameP y with
      | some (nx, px), some (ny, py) => (match g, m with
        | .two (.nm i) (.nm j), .tup (.cons ma (.cons mb .nil)) => decide (i ≠ j) && decide (c.N[i]? = some nx) && decide (c.N[j]? = some ny) && decide (c.kind nx = some .local) && decide (c.kind ny = some .local) && (py.line == px.line) &&
            !([a, b].all (foldedForSure 8)) && !([a, b].all (constantsAlone 8)) && okE c ma a && okE c mb b && decide (i ∈ A) && decide (j ∈ A)
        | _, _ => false)
      | _, _ => okG c g t && okE c m e && subA g.slots A)
    | some _, none => okG c g t && okE c m e && subA g.slots A
    | _, _ => false)
def vApp (nm : String) (st : Stmt) : Option (Str × List Expr) := match vExp st with
  | some e => (match vCallM e with
    | some (o, m, es) => (match vName o with
      | some x => if m = Str.ofString nm then some (x, es) else none
      | none => none)
    | none => none)
  | none => none
/-- x[k].append(v) -/
def vNapp (st : Stmt) : Option (Str × Expr × Expr) := match vExp st with
  | some e => (match vCallM e with
    | some (o, m, [v]) => (match vSub o with
      | some (n, k) => (match vName n with
        | some x => if m = Str.ofString "append" then some (x, k, v) else none
        | none => none)
      | none => none)
    | _ => none)
  | none => none
theorem vNapp_ok {st : Stmt} {x : Str} {k v : Expr} (h : vNapp st = some (x, k, v)) : ∃ p p3 ap p2 pos, st = .Expr (.Call (.Attribute (.Subscript (.Name x p) k p3) (Str.ofString "append") ap) [v] [] p2) pos ∧ (ap.endLine == p2.line) = true := by
  unfold vNapp at h
  split at h
  · rename_i e he
    obtain ⟨pos, rfl⟩ := vExp_ok he
    split at h
    · rename_i o m v' hc
      obtain ⟨ap, p2, rfl, hl⟩ := vCallM_ok hc
      split at h
      · rename_i n k' hs
        obtain ⟨p3, rfl⟩ := vSub_ok hs
        split at h
        · rename_i y hy
          obtain ⟨p, rfl⟩ := vName_ok hy
          split at h
          · rename_i hm
            subst hm
            cases h
            exact ⟨p, p3, ap, p2, pos, rfl, hl⟩
          · cases h
        · cases h
      · cases h
    · cases h
  · cases h
/-- what an own loop walks -/
def okOw (c : CC) (h : Sh) (i : Nat) (tg iter : Expr) : Bool := match h with
  | .en _ _ => (match vCallN iter, vTuple tg with
    | some (y, [a]), some _ => (match vName a with
      | some x => decide (y = Str.ofString "enumerate") && okB c y && okVar c i x
      | none => false)
    | _, _ => false)
  | _ => (match vName iter with
    | some x => okVar c i x
    | none => false)
theorem vApp_ok {nm : String} {st : Stmt} {x : Str} {es : List Expr} (h : vApp nm st = some (x, es)) : ∃ p ap p2 pos, st = .Expr (.Call (.Attribute (.Name x p) (Str.ofString nm) ap) es [] p2) pos ∧ (ap.endLine == p2.line) = true := by
  unfold vApp at h
  split at h
  · rename_i e he
    obtain ⟨pos, rfl⟩ := vExp_ok he
    split at h
    · rename_i o m es' hc
      obtain ⟨ap, p2, rfl, hl⟩ := vCallM_ok hc
      split at h
      · rename_i y hy
        obtain ⟨p, rfl⟩ := vName_ok hy
        split at h
        · rename_i hm
          subst hm
          cases h
          exact ⟨p, ap, p2, pos, rfl, hl⟩
        · cases h
      · cases h
    · cases h
  · cases h
mutual
def okS (c : CC) : S → List Nat → Stmt → Bool
  | .bad, _, _ => true
  | .rais _, _, _ => false
  | .pass, _, st => isPass st
  | .brk, _, st => isBrk st
  | .asg g m, A, st => (match vAsg st with
    | some (t, e) => decide (c.sc.kind = .function) && okA c A g m t e
    | none => false)
  | .setI i mk m, _, st => (match vAsg st with
    | some (t, e) => (match vSubN t with
      | some (x, k) => okVar c i x && okE c mk k && okE c m e
      | none => false)
    | none => false)
  | .set2 i mk j ml ma mb, _, st => (match vAsg st with
    | some (t, e) => (match vTuple t, vTuple e with
      | some [u, w], some [a, b] => (match vSubN u, vSubN w with
        | some (x, k), some (y, l) => okVar c i x && okVar c j y && okE c mk k && okE c ml l && okE c ma a && okE c mb b
        | _, _ => false)
      | _, _ => false)
    | none => false)
  | .aug i m, A, st => (match vAug st with
    | some (t, .Add, e) => (match vName t with
      | some x => okSto c i x && okE c m e && decide (i ∈ A)
      | none => false)
    | _ => false)
  | .ex m, _, st => (match vExp st with
    | some e => !isComp e && okE c m e
    | none => false)
  | .app i m, _, st => (match vApp "append" st with
    | some (x, [a]) => okVar c i x && okE c m a
    | _ => false)
  | .ext i m, _, st => (match vApp "extend" st with
    | some (x, [a]) => okVar c i x && okE c m a
    | _ => false)
  | .rem i m, _, st => (match vApp "remove" st with
    | some (x, [a]) => okVar c i x && okE c m a
    | _ => false)
  | .ins i mk m, _, st => (match vApp "insert" st with
    | some (x, [b, a]) => okVar c i x && okE c mk b && okE c m a
    | _ => false)
  | .rvs i, _, st => (match vApp "reverse" st with
    | some (x, []) => okVar c i x
    | _ => false)
  | .clr i, _, st => (match vApp "clear" st with
    | some (x, []) => okVar c i x
    | _ => false)
  | .ret m, _, st => (match vRet st with
    | some (some e) => okE c m e
    | _ => false)
  | .rtn, _, st => (match vRet st with
    | some none => true
    | _ => false)
  | .ite m s1 s2, A, st => (match vIfS st with
    | some (e, a, b) => !isIf e && okE c m e && okSs c s1 A a && okSs c s2 A b
    | none => false)
  | .whl m s1, A, st => (match vWhl st with
    | some (e, a) => !isIf e && okE c m e && okSs c s1 A a
    | none => false)
  | .for g it s1, A, st => (match vFor st with
    | some (tg, iter, a) => okI c it tg iter && okG c g tg && subA g.slots (A.filter fun j => !(hidOf it).contains j) && okSs c s1 (A.filter fun j => !(hidOf it).contains j) a
    | none => false)
  | .forO h i s1, A, st => (match vFor st with
    | some (tg, iter, a) => okOw c h i tg iter && okG c h.g tg && h.ok && subA h.g.slots (A.filter fun j => decide (j ≠ i)) && okSs c s1 ((A.filter fun j => decide (j ≠ i)).filter fun j => decide (j ≠ h.t)) a
    | none => false)
  | .napp i mk m, _, st => (match vNapp st with
    | some (x, k, v) => okVar c i x && okE c mk k && okE c m v
    | none => false)
def okSs (c : CC) : Ss → List Nat → List Stmt → Bool
  | .nil, _, [] => true
  | .cons s r, A, st :: sts => okS c s A st && okSs c r A sts
  | _, _, _ => false
end
section
variable {k : Nat} {cv : Str → Value} {c : CC} {X : Cx} {W : WC}
theorem okA_ok (O : Ok X c k cv W) (hk : X.env.scope.kind = .function) {A : List Nat} {g : G} {m : E} {t e : Expr} {pos : Pos} (h : okA c A g m t e = true) : PS X (.Assign [t] e pos) (tS (csOf c.fs k) W A (.asg g m)) := by
  unfold okA at h
  split at h
  · rename_i y py ht
    obtain rfl := vNameP_ok ht
    split at h
    · rename_i i
      simp only [Bool.and_eq_true, decide_eq_true_eq] at h
      obtain ⟨⟨h1, h2⟩, h3⟩ := h
      have hA : ∀ j ∈ (G.nm i).slots, j ∈ A := fun j hj => by rw [List.mem_singleton.mp hj]; exact h2
      have sto := okSto_ok O h1
      split at h3
      · rename_i elt tg iter ifs scope p hc
        have hc' := vCompP_ok hc
        split at h3
        · rename_i hsw
          simp only [Bool.and_eq_true] at h3
          obtain ⟨h4, h5⟩ := h3
          cases m <;> first | cases h4 | skip
          rename_i g own it mt me
          rw [okE] at h5
          subst hc'
          have ev : vComp (.ListComp elt [⟨tg, iter, ifs, 0⟩] scope p) = some (elt, tg, iter, ifs, scope) := rfl
          rw [ev] at h5
          simp only [Bool.and_eq_true] at h5
          obtain ⟨⟨⟨⟨⟨q1, q2⟩, q3⟩, q4⟩, q5⟩, q6⟩ := h5
          have q6' : ∀ j ∈ g.slots, j ∈ own := fun j hj => of_decide_eq_true (List.all_eq_true.mp q6 j hj)
          have hsw' := hsw
          unfold swB at hsw'
          simp only [Bool.and_eq_true, decide_eq_true_eq] at hsw'
          have := snd_setLc (A := A) (i := i) (y := y) (py := py) (spos := pos) (pos := p) (ownP := ownP c.N own) O.calm O.nd sto.1 (by rw [O.sc]; exact hsw'.1.1) (by rw [swW_name hk, O.sc, hsw]) (okI_ok it c X W tg iter O q1) (by rw [O.n, O.sc]; exact blkOk_by q2)
            (fun s H C cl fp => okG_ok (O.inB scope s H C cl fp) g tg q3) (fun s H C cl fp => okT_ok mt (c.blk scope) _ WF ifs (O.inB scope s H C cl fp) q4)
            (fun s H C cl fp => (okE_ok me (c.blk scope) _ WF elt (O.inB scope s H C cl fp) q5).pe) (by rw [ownP_slots]; exact q6') h2
          rwa [ownP_slots] at this
        · rename_i hsw
          subst hc'
          refine snd_asg (okE_ok m c X W _ O h3) (snd_gnm O.nd sto) hA rfl (fun l => ?_) (swS_t rfl rfl)
          rw [swW_name hk, O.sc]
          cases hb : swB c.sc y py scope p with
          | true => exact absurd hb hsw
          | false => rfl
      · simp only [Bool.and_eq_true, Bool.not_eq_true'] at h3
        exact snd_asg (okE_ok m c X W _ O h3.2) (snd_gnm O.nd sto) hA rfl (fun l => swW_no h3.1 _ _ _) (swS_t rfl rfl)
    · cases h
  · rename_i ht
    have nt : vName t = none := by cases t <;> first | rfl | cases ht
    split at h
    · rename_i x y a b h1 h2
      obtain ⟨k1, p1, rfl⟩ := vTuple_ok h1
      obtain ⟨k2, p2, rfl⟩ := vTuple_ok h2
      split at h
      · rename_i nx px ny py hx hy
        obtain rfl := vNameP_ok hx
        obtain rfl := vNameP_ok hy
        split at h
        · rename_i i j ma mb
          simp only [Bool.and_eq_true, decide_eq_true_eq, Bool.not_eq_true'] at h
          obtain ⟨⟨⟨⟨⟨⟨⟨⟨⟨⟨⟨q1, q2⟩, q3⟩, q4⟩, q5⟩, q6⟩, q7⟩, q8⟩, q9⟩, q10⟩, q11⟩, q12⟩ := h
          exact snd_par O.calm O.nd (by rw [O.n]; exact q2) (by rw [O.n]; exact q3) q1 hk (by rw [O.sc]; exact q4) (by rw [O.sc]; exact q5) (okE_ok ma c X W a O q9) (okE_ok mb c X W b O q10) q6 q7 q8 ⟨q11, q12⟩
        · cases h
      · rename_i hn
        simp only [Bool.and_eq_true] at h
        obtain ⟨⟨h3, h4⟩, h5⟩ := h
        refine snd_asg (okE_ok m c X W _ O h4) (okG_ok O g _ h3) (subA_ok h5) rfl (fun l => swW_tup nt) (swS_two ?_)
        cases hx : vName x with
        | none => exact .inl rfl
        | some nx =>
          right
          cases hy : vName y with
          | none => rfl
          | some ny =>
            exfalso
            obtain ⟨px, rfl⟩ := vName_ok hx
            obtain ⟨py, rfl⟩ := vName_ok hy
            exact hn nx px ny py rfl rfl
    · rename_i es h2 hne
      obtain ⟨k1, p1, rfl⟩ := vTuple_ok h2
      simp only [Bool.and_eq_true] at h
      obtain ⟨⟨h3, h4⟩, h5⟩ := h
      have ne : isTupX e = false := by cases e <;> first | rfl | cases hne
      exact snd_asg (okE_ok m c X W _ O h4) (okG_ok O g _ h3) (subA_ok h5) rfl (fun l => swW_tup nt) (swS_e ne)
    · cases h
mutual
theorem okS_ok (O : Ok X c k cv W) : ∀ (m : S) (A : List Nat) (st : Stmt), okS c m A st = true → PS X st (tS (csOf c.fs k) W A m)
  | .bad, A, st, h => snd_bad
  | .rais _, A, st, h => by rw [okS] at h; cases h
  | .pass, A, st, h => by
    rw [okS] at h
    obtain ⟨p, rfl⟩ := isPass_ok h
    exact ps_imp ps_pass fun Z σ H h => pass_read h
  | .brk, A, st, h => by
    rw [okS] at h
    obtain ⟨p, rfl⟩ := isBrk_ok h
    exact ps_imp ps_break fun Z σ H h => brk_read h
  | .asg g m, A, st, h => by
    rw [okS] at h
    split at h
    · rename_i t e hv
      obtain ⟨p, rfl⟩ := vAsg_ok hv
      simp only [Bool.and_eq_true, decide_eq_true_eq] at h
      exact okA_ok O (by rw [O.sc]; exact h.1) h.2
    · cases h
  | .setI i mk m, A, st, h => by
    rw [okS] at h
    split at h
    · rename_i t e hv
      obtain ⟨p, rfl⟩ := vAsg_ok hv
      split at h
      · rename_i x kx hs
        obtain ⟨p3, p4, rfl, pk⟩ := vSubN_ok hs
        simp only [Bool.and_eq_true] at h
        obtain ⟨⟨h1, h2⟩, h3⟩ := h
        obtain ⟨v1, v2, v3, v4⟩ := okVar_ok O h1
        exact snd_setI (by have := O.room.un; omega) v1 v2 v3 v4 pk (okE_ok m c X W _ O h3) (okE_ok mk c X W _ O h2)
      · cases h
    · cases h
  | .set2 i mk j ml ma mb, A, st, h => by
    rw [okS] at h
    split at h
    · rename_i t e hv
      obtain ⟨p, rfl⟩ := vAsg_ok hv
      split at h
      · rename_i u w a b h1 h2
        obtain ⟨k1, p1, rfl⟩ := vTuple_ok h1
        obtain ⟨k2, p2, rfl⟩ := vTuple_ok h2
        split at h
        · rename_i x kx y ky hs1 hs2
          obtain ⟨p3, p4, rfl, pk⟩ := vSubN_ok hs1
          obtain ⟨p5, p6, rfl, pl⟩ := vSubN_ok hs2
          simp only [Bool.and_eq_true] at h
          obtain ⟨⟨⟨⟨⟨q1, q2⟩, q3⟩, q4⟩, q5⟩, q6⟩ := h
          obtain ⟨v1, v2, v3, v4⟩ := okVar_ok O q1
          obtain ⟨w1, w2, w3, w4⟩ := okVar_ok O q2
          exact snd_set2 O.calm (by have := O.room.un; omega) v1 v2 v3 v4 w1 w2 w3 w4 pk pl (okE_ok ma c X W _ O q5) (okE_ok mb c X W _ O q6) (okE_ok mk c X W _ O q3) (okE_ok ml c X W _ O q4)
        · cases h
      · cases h
    · cases h
  | .aug i m, A, st, h => by
    rw [okS] at h
    split at h
    · rename_i t e hv
      obtain ⟨p, rfl⟩ := vAug_ok hv
      split at h
      · rename_i x hx
        obtain ⟨p2, rfl⟩ := vName_ok hx
        simp only [Bool.and_eq_true, decide_eq_true_eq] at h
        obtain ⟨⟨h1, h2⟩, h3⟩ := h
        obtain ⟨s1, s2, s3⟩ := okSto_ok O h1
        exact snd_aug O.nd s1 s2 s3 (okE_ok m c X W _ O h2) h3
      · cases h
    · cases h
  | .ex m, A, st, h => by
    rw [okS] at h
    split at h
    · rename_i e hv
      obtain ⟨p, rfl⟩ := vExp_ok hv
      simp only [Bool.and_eq_true, Bool.not_eq_true'] at h
      exact snd_ex (okE_ok m c X W _ O h.2) h.1
    · cases h
  | .app i m, A, st, h => by
    rw [okS] at h
    split at h
    · rename_i x a hv
      obtain ⟨p, ap, p2, pos, rfl, hl⟩ := vApp_ok hv
      simp only [Bool.and_eq_true] at h
      obtain ⟨v1, v2, v3, v4⟩ := okVar_ok O h.1
      exact snd_app v1 v2 v3 v4 (okE_ok m c X W _ O h.2) hl
    · cases h
  | .ext i m, A, st, h => by
    rw [okS] at h
    split at h
    · rename_i x a hv
      obtain ⟨p, ap, p2, pos, rfl, hl⟩ := vApp_ok hv
      simp only [Bool.and_eq_true] at h
      obtain ⟨v1, v2, v3, v4⟩ := okVar_ok O h.1
      exact snd_ext v1 v2 v3 v4 (okE_ok m c X W _ O h.2) hl
    · cases h
  | .rem i m, A, st, h => by
    rw [okS] at h
    split at h
    · rename_i x a hv
      obtain ⟨p, ap, p2, pos, rfl, hl⟩ := vApp_ok hv
      simp only [Bool.and_eq_true] at h
      obtain ⟨v1, v2, v3, v4⟩ := okVar_ok O h.1
      exact snd_rem v1 v2 v3 v4 (okE_ok m c X W _ O h.2) hl
    · cases h
  | .ins i mk m, A, st, h => by
    rw [okS] at h
    split at h
    · rename_i x b a hv
      obtain ⟨p, ap, p2, pos, rfl, hl⟩ := vApp_ok hv
      simp only [Bool.and_eq_true] at h
      obtain ⟨⟨h1, h2⟩, h3⟩ := h
      obtain ⟨v1, v2, v3, v4⟩ := okVar_ok O h1
      exact snd_ins v1 v2 v3 v4 (okE_ok mk c X W _ O h2) (okE_ok m c X W _ O h3) hl
    · cases h
  | .rvs i, A, st, h => by
    rw [okS] at h
    split at h
    · rename_i x hv
      obtain ⟨p, ap, p2, pos, rfl, hl⟩ := vApp_ok hv
      obtain ⟨v1, v2, v3, v4⟩ := okVar_ok O h
      exact snd_rvs v1 v2 v3 v4 hl
    · cases h
  | .clr i, A, st, h => by
    rw [okS] at h
    split at h
    · rename_i x hv
      obtain ⟨p, ap, p2, pos, rfl, hl⟩ := vApp_ok hv
      obtain ⟨v1, v2, v3, v4⟩ := okVar_ok O h
      exact snd_clr v1 v2 v3 v4 hl
    · cases h
  | .ret m, A, st, h => by
    rw [okS] at h
    split at h
    · rename_i e hv
      obtain ⟨p, rfl⟩ := vRet_ok hv
      exact snd_ret (okE_ok m c X W _ O h)
    · cases h
  | .rtn, A, st, h => by
    rw [okS] at h
    split at h
    · rename_i hv
      obtain ⟨p, rfl⟩ := vRet_ok hv
      exact snd_rtn
    · cases h
  | .ite m s1 s2, A, st, h => by
    rw [okS] at h
    split at h
    · rename_i e a b hv
      obtain ⟨p, rfl⟩ := vIfS_ok hv
      simp only [Bool.and_eq_true, Bool.not_eq_true'] at h
      obtain ⟨⟨⟨h1, h2⟩, h3⟩, h4⟩ := h
      exact snd_ifS (okE_ok m c X W _ O h2) h1 (okSs_ok O s1 A a h3) (okSs_ok O s2 A b h4)
    · cases h
  | .whl m s1, A, st, h => by
    rw [okS] at h
    split at h
    · rename_i e a hv
      obtain ⟨p, rfl⟩ := vWhl_ok hv
      simp only [Bool.and_eq_true, Bool.not_eq_true'] at h
      obtain ⟨⟨h1, h2⟩, h3⟩ := h
      exact snd_whl O.pass (okE_ok m c X W _ O h2) h1 (okSs_ok O s1 A a h3)
    · cases h
  | .for g it s1, A, st, h => by
    rw [okS] at h
    split at h
    · rename_i tg iter a hv
      obtain ⟨p, rfl⟩ := vFor_ok hv
      simp only [Bool.and_eq_true] at h
      obtain ⟨⟨⟨h1, h2⟩, h3⟩, h4⟩ := h
      refine snd_for O.pass O.calm (okI_ok it c X W tg iter O h1) (okG_ok O g tg h2) (okSs_ok O s1 _ a h4) (subA_ok h3) (fun j hj => (List.mem_filter.mp hj).1) fun j hj hm => ?_
      have := (List.mem_filter.mp hm).2
      simp [hj] at this
    · cases h
  | .forO h i s1, A, st, q => by
    rw [okS] at q
    split at q
    · rename_i tg iter a hv
      obtain ⟨p, rfl⟩ := vFor_ok hv
      simp only [Bool.and_eq_true] at q
      obtain ⟨⟨⟨⟨h1, h2⟩, h3⟩, h4⟩, h5⟩ := q
      have ow : PI X tg iter (tOwnIt i h.isEn) ∧ ∀ x, foldedSetIterable iter X.env x = pure x := by
        unfold okOw at h1
        have nm : ∀ {hh : Bool}, hh = false → (match vName iter with | some x => okVar c i x | none => false) = true → PI X tg iter (tOwnIt i hh) ∧ ∀ x, foldedSetIterable iter X.env x = pure x := fun {hh} e q => by
          subst e
          split at q
          · rename_i x hx
            obtain ⟨p2, rfl⟩ := vName_ok hx
            obtain ⟨v1, v2, v3, v4⟩ := okVar_ok O q
            exact ⟨own_name v1 v2 v3 v4, fun x => rfl⟩
          · cases q
        cases h with
        | it t => exact nm rfl h1
        | tu t k2 => exact nm rfl h1
        | en k2 t =>
          dsimp only at h1
          split at h1
          · rename_i y a' ts hx ht
            obtain ⟨p1, p2, rfl⟩ := vCallN_ok hx
            obtain ⟨j, p3, rfl⟩ := vTuple_ok ht
            split at h1
            · rename_i x hx2
              obtain ⟨p4, rfl⟩ := vName_ok hx2
              simp only [Bool.and_eq_true, decide_eq_true_eq] at h1
              obtain ⟨⟨rfl, h1⟩, hva⟩ := h1
              obtain ⟨g1, m1⟩ := okB_ok O h1
              obtain ⟨v1, v2, v3, v4⟩ := okVar_ok O hva
              exact ⟨own_enum g1 m1 v1 v2 v3 v4, fun x => rfl⟩
            · cases h1
          · cases h1
      refine snd_forO O.pass O.calm ow.1 ow.2 (okG_ok O h.g tg h2) (okSs_ok O s1 _ a h5) h3 (fun hm => ?_) (subA_ok h4) (fun j hj => (List.mem_filter.mp hj).1) (fun hm => ?_) fun j hj => (List.mem_filter.mp hj).1
      · have := (List.mem_filter.mp hm).2
        simp at this
      · have := (List.mem_filter.mp hm).2
        simp at this
    · cases q
  | .napp i mk m, A, st, q => by
    rw [okS] at q
    split at q
    · rename_i x kx v hv
      obtain ⟨p, p3, ap, p2, pos, rfl, hl⟩ := vNapp_ok hv
      simp only [Bool.and_eq_true] at q
      obtain ⟨⟨h1, h2⟩, h3⟩ := q
      obtain ⟨v1, v2, v3, v4⟩ := okVar_ok O h1
      exact snd_napp v1 v2 v3 v4 (okE_ok mk c X W _ O h2) (okE_ok m c X W _ O h3) hl
    · cases q
theorem okSs_ok (O : Ok X c k cv W) : ∀ (m : Ss) (A : List Nat) (sts : List Stmt), okSs c m A sts = true → PSs X sts (tSs (csOf c.fs k) W A m)
  | .nil, A, [], h => pss_imp pss_nil fun Z σ H h => nil_read h
  | .cons s r, A, st :: sts, h => by
    rw [okSs] at h
    simp only [Bool.and_eq_true] at h
    exact pss_imp (pss_cons (okS_ok O s A st h.1) (okSs_ok O r A sts h.2)) fun Z σ H h => cons_read h
  | .nil, A, _ :: _, h => by simp [okSs] at h
  | .cons _ _, A, [], h => by simp [okSs] at h
end
end
end VI
namespace VI
open PySem PySem.Spec PyProof.Rows L2
/-! ### defs -/
def CC.of (fs : List Fn) (free : List Str) (gi : List (Str × Int)) (gs : List (Str × Str)) (d : Fn) (sc : Scope) : CC := ⟨d.N, sc, true, [], fs, free, gi, gs⟩
def slotsA (d : Fn) : List Nat := (List.range d.N.length).filter fun i => !(d.io.getD i false)
def okF (fs : List Fn) (free : List Str) (gi : List (Str × Int)) (gs : List (Str × Str)) (d : Fn) (sc : Scope) (body : List Stmt) : Bool :=
  decide (sc.kind = .function) && !sc.isCoroutine && !sc.isGenerator && decide d.N.Nodup && decide (d.np ≤ d.N.length) &&
    ((d.N.take d.np).all fun x => decide (sc.names.lookup x = some .local) || decide (sc.names.lookup x = some .cell)) && (sc.names.all fun y => decide (y.2 ≠ .free)) && okSs (.of fs free gi gs d sc) d.body (slotsA d) body
theorem find_nodup {x : Str} : ∀ {fs : List Fn} {d : Fn}, (fs.map (·.name)).Nodup → d ∈ fs → d.name = x → fs.find? (fun e => e.name == x) = some d
  | [], _, _, h, _ => by cases h
  | e :: fs, d, hn, h, hx => by
    have hn' := List.nodup_cons.mp (show (e.name :: fs.map (·.name)).Nodup from hn)
    rcases List.mem_cons.mp h with rfl | h
    · exact List.find?_cons_of_pos (by rw [hx]; exact beq_self_eq_true _)
    · have : e.name ≠ x := fun z => hn'.1 (List.mem_map.mpr ⟨d, h, by rw [hx, z]⟩)
      rw [List.find?_cons_of_neg (by rw [beq_iff_eq]; exact this)]
      exact find_nodup hn'.2 h hx
section
variable {H : Hp} {P : Addr → Prop}
theorem outs_rel : ∀ (vs : List V) (io : List Bool) (σ : L2.St) (e : Env) (F : List FP), Rels H P σ e F → (∀ i v, vs[i]? = some v → io.getD i false = true → σ[i]? = some (some v)) →
    ∃ Os, Rels H P (vs.map some) (outsOf io vs.length e) Os ∧ ∀ a, tot Os a ≤ tot F a
  | [], io, σ, e, F, r, h => ⟨[], trivial, fun a => Nat.zero_le _⟩
  | v :: vs, io, σ, [], F, r, h => by
    have hs : σ = [] := by cases σ <;> first | rfl | simp [Rels] at r
    subst hs
    have hF : F = [] := by cases F <;> first | rfl | simp [Rels] at r
    subst hF
    obtain ⟨Os, h1, h2⟩ := outs_rel vs io.tail [] [] [] trivial fun i w hw hi => by
      have := h (i + 1) w (by simpa using hw) (by cases io <;> simpa using hi)
      simp at this
    refine ⟨fz :: Os, ?_, fun a => by have := h2 a; simp [tot] at this ⊢; omega⟩
    show Rels H P ((v :: vs).map some) ((if io.headD false then Slot.none else .none) :: outsOf io.tail vs.length []) (fz :: Os)
    rw [ite_self]
    exact ⟨rfl, h1⟩
  | v :: vs, io, [], _ :: _, F, r, h => by simp [Rels] at r
  | v :: vs, io, o :: σ, s :: e, [], r, h => by simp [Rels] at r
  | v :: vs, io, o :: σ, s :: e, f :: F, r, h => by
    have r2 : Rels H P σ e F := by cases s <;> cases o <;> first | exact r.2 | cases r
    obtain ⟨Os, h1, h2⟩ := outs_rel vs io.tail σ e F r2 fun i w hw hi => by
      have := h (i + 1) w (by simpa using hw) (by cases io <;> simpa using hi)
      simpa using this
    have nn : ∃ Os, Rels H P ((v :: vs).map some) (Slot.none :: outsOf io.tail vs.length e) Os ∧ ∀ a, tot Os a ≤ tot (f :: F) a := ⟨fz :: Os, ⟨rfl, h1⟩, fun a => by have := h2 a; simp [tot]; omega⟩
    show ∃ Os, Rels H P ((v :: vs).map some) ((if io.headD false then s else .none) :: outsOf io.tail vs.length e) Os ∧ ∀ a, tot Os a ≤ tot (f :: F) a
    cases hm : io.headD false with
    | false => exact nn
    | true =>
      cases s with
      | none => exact nn
      | own d l =>
        have := h 0 v rfl (by cases io <;> simpa using hm)
        simp at this
        subst this
        exact ⟨f :: Os, ⟨r.1, h1⟩, fun a => by have := h2 a; simp [tot]; omega⟩
theorem tot_pad (n : Nat) (a : Addr) : ∀ F : List FP, tot (F ++ List.replicate n fz) a = tot F a
  | [] => by
    show tot (List.replicate n fz) a = 0
    induction n with
    | zero => rfl
    | succ n ih => show fz a + tot (List.replicate n fz) a = 0; rw [ih]; rfl
  | f :: F => by
    show f a + tot (F ++ List.replicate n fz) a = f a + tot F a
    rw [tot_pad n a F]
theorem rels_none : ∀ n : Nat, Rels H P (List.replicate n none) (List.replicate n .none) (List.replicate n fz)
  | 0 => trivial
  | n + 1 => ⟨rfl, rels_none n⟩
theorem rels_pad (n : Nat) : ∀ {σ : L2.St} {e : Env} {F : List FP}, Rels H P σ e F → Rels H P (σ ++ List.replicate n none) (e ++ List.replicate n .none) (F ++ List.replicate n fz)
  | [], [], [], _ => rels_none n
  | [], [], _ :: _, r => by simp [Rels] at r
  | [], _ :: _, _, r => by simp [Rels] at r
  | _ :: _, [], _, r => by simp [Rels] at r
  | _ :: _, _ :: _, [], r => by simp [Rels] at r
  | o :: σ, .none :: e, f :: F, r => ⟨r.1, rels_pad n r.2⟩
  | some v :: σ, .own _ _ :: e, f :: F, r => ⟨r.1, rels_pad n r.2⟩
  | none :: σ, .own _ _ :: e, f :: F, r => by cases r
end
section
variable {P : Program} {w : World} {K : PySem.W.Frag} {mg : Str → Option Value} {base : Heap} {x qual : Str} {params : Arguments} {body : List Stmt} {scope : Scope} {f : Addr} {fd : FuncData} {fs : List Fn} {free : List Str} {gi : List (Str × Int)} {gs : List (Str × Str)} {d : Fn} {k : Nat} {cv : Str → Value}
theorem fn_ok (hn : (fs.map (·.name)).Nodup) (hd : d ∈ fs) (F : FunD K x qual params body scope [] [] f fd) (h : okF fs free gi gs d scope body = true) (hfree : ∀ x ∈ free, mg x = none) (hgi : ∀ p ∈ gi, ∃ t, mg p.1 = some (.int p.2 t)) (hgs : ∀ p ∈ gs, ∃ t, mg p.1 = some (.str p.2 t))
    (fns : ∀ d ∈ fs, ∃ f fd, mg d.name = some (.ref f) ∧ FnOk P w K mg base (L2.CX P w) k f fd (d.N.take d.np) (spV fs cv k d.name) ∧ PySem.W.keepIn K (.ref f) = true ∧ Binds K fd (d.N.take d.np) []) :
    FnOk P w K mg base (L2.CX P w) (k + 1) f fd (d.N.take d.np) (spV fs cv (k + 1) d.name) := by
  unfold okF at h
  simp only [Bool.and_eq_true, decide_eq_true_eq, Bool.not_eq_true'] at h
  obtain ⟨⟨⟨⟨⟨⟨⟨h1, h2⟩, h3⟩, h4⟩, h5⟩, h6⟩, h7⟩, h8⟩ := h
  have hpl : (d.N.take d.np).length = d.np := by rw [List.length_take]; omega
  have S : FnScope d.N (d.N.take d.np) scope := ⟨h1, h2, h3, h4, by rw [hpl], fun x hx => by
    have := List.all_eq_true.mp h6 x hx
    simpa using this, fun y hy => by
    have := List.all_eq_true.mp h7 y hy
    simpa using this⟩
  have hf := find_nodup (x := d.name) hn hd rfl
  have run : ∀ as, runF fs (k + 1) d.name as = if as.length = d.np ∧ d.np ≤ d.N.length then endOf d (execs ⟨ioOf fs, runF fs k⟩ d.body (startE d as)) else .stk := fun as => by
    show (match fs.find? (fun e => e.name == d.name) with
    | some d => if as.length = d.np ∧ d.np ≤ d.N.length then endOf d (execs ⟨ioOf fs, runF fs k⟩ d.body (startE d as)) else .stk
    | none => .stk) = _
    rw [hf]
  have len : ∀ vs H Q E, spV fs cv (k + 1) d.name vs H Q E → vs.length = (d.N.take d.np).length := fun vs H Q E ⟨as, P0, Fs, S0, r⟩ => by
    rw [hpl]
    rw [run] at r
    split at r
    · rename_i hl
      have := S0.rel.len.1
      simp at this
      omega
    · exact r.elim
  refine F.ok S len fun cdv A outer s H vs Q E hr hsp => ?_
  obtain ⟨as, P0, Fs, S0, r⟩ := hsp
  rw [run] at r
  split at r
  case isFalse => exact r.elim
  rename_i hl
  have hvl : vs.length = d.np := by
    have := S0.rel.len.1
    simp at this
    omega
  let W : WC := fun c _ H => ∀ dd, E (cv c) dd H
  let X := cxOf (L2.CX P w) P w K mg base d.N qual scope f cdv A outer s H E
  have O : Ok X (.of fs free gi gs d scope) k cv W := by
    refine ⟨rfl, h4, rfl, rfl, hr, fun _ x => rfl, fun x hx => (by cases hx), hfree, hgi, hgs, fns, ?_, passes_of (X := X) rfl⟩
    refine (takes_of (X := X) rfl rfl rfl (E := E) rfl).imp fun c dd σ H ⟨cl, e1, hw⟩ => ?_
    subst e1
    exact hw dd
  refine ⟨tSs (csOf fs k) W (slotsA d) d.body, okSs_ok O d.body (slotsA d) body h8, ?_⟩
  have hal : as.length = vs.length := by omega
  have rp := rels_pad (d.N.length - vs.length) S0.rel
  have tp := fun a => tot_pad (d.N.length - vs.length) a Fs
  have e1 : startE d as = (as.map fun p => Slot.own p.1 p.2) ++ List.replicate (d.N.length - vs.length) .none := by rw [← hal]; rfl
  refine ⟨startE d as, P0, Fs ++ List.replicate (d.N.length - vs.length) fz, ⟨by rw [e1]; exact rp, fun a => by rw [tp]; exact S0.one a, fun a z => by rw [tp]; exact S0.sep a z, S0.inP, fun a z => S0.inT a (by rwa [tp] at z)⟩, ?_⟩
  have ends : ∀ (σ' : L2.St) (e' : Env) (H' : Hp) (P' : Addr → Prop) (F' : List FP), Kp (slotsA d) (L2.start d.N vs) σ' → St0 σ' e' H' P' F' → ∃ Os, St0 (vs.map some) (outsOf d.io d.np e') H' P' Os ∧ ∀ a, tot Os a ≤ tot F' a := fun σ' e' H' P' F' kp S' => by
    obtain ⟨Os, h1, h2⟩ := outs_rel vs d.io σ' e' F' S'.rel fun i v hv hi => by
      have hiv : i < vs.length := (List.getElem?_eq_some_iff.mp hv).1
      have hni : i ∉ slotsA d := fun z => by
        have := (List.mem_filter.mp z).2
        rw [hi] at this
        cases this
      rw [kp i hni]
      unfold L2.start
      rw [List.getElem?_append_left (by simpa using hiv), List.getElem?_map, hv]; rfl
    rw [hvl] at h1
    exact ⟨Os, ⟨h1, fun a => Nat.le_trans (h2 a) (S'.one a), fun a z => by have := h2 a; have := S'.sep a z; omega, S'.inP, fun a z => S'.inT a (Nat.le_trans z (h2 a))⟩, h2⟩
  have hcs : csOf fs k = ⟨ioOf fs, runF fs k⟩ := rfl
  rw [hcs]
  have hT : ∀ {H' : Hp} {P' : Addr → Prop} {T' : FP}, Stp H P0 (tot (Fs ++ List.replicate (d.N.length - vs.length) fz)) H' P' T' → Stp H P0 (tot Fs) H' P' T' := fun st => st.mono (fun a => by rw [tp]; exact Nat.le_refl _) fun a => Nat.le_refl _
  cases ex : execs ⟨ioOf fs, runF fs k⟩ d.body (startE d as) with
  | stk => rw [ex] at r; exact r.elim
  | brk e' => rw [ex] at r; exact r.elim
  | nx e' =>
    rw [ex] at r
    intro σ' H' P' F' kp S' st
    obtain ⟨Os, SO, hO⟩ := ends σ' e' H' P' F' kp S'
    exact r .non H' P' Os fz SO ⟨rfl, rfl⟩ Frm.z ((hT st).mono (fun _ => Nat.le_refl _) fun a => by have := hO a; simp; omega)
  | ret dv l e' =>
    rw [ex] at r
    intro σ' v H' P' F' g kp S' rv fr st
    obtain ⟨Os, SO, hO⟩ := ends σ' e' H' P' F' kp S'
    exact r v H' P' Os g SO rv (fr.less hO) ((hT st).mono (fun _ => Nat.le_refl _) fun a => by have := hO a; simp; omega)
  | exc c e' =>
    rw [ex] at r
    intro σ' H' P' F' kp S' st dd
    exact r H' P' S'.inP ((hT st).mono (fun _ => Nat.le_refl _) fun a => by simp) dd
end
end VI
namespace VI
open PySem PySem.Spec PyProof.Rows L2
/-! ### all defs, by levels -/
/-- a def of the table as it stands behind the top -/
structure Stands (K : PySem.W.Frag) (mg : Str → Option Value) (fs : List Fn) (free : List Str) (gi : List (Str × Int)) (gs : List (Str × Str)) (d : Fn) : Prop where
  ex : ∃ (f : Addr) (fd : FuncData) (x qual : Str) (params : Arguments) (body : List Stmt) (scope : Scope), mg d.name = some (.ref f) ∧ FunD K x qual params body scope [] [] f fd ∧ okF fs free gi gs d scope body = true ∧
    Binds K fd (d.N.take d.np) []
section
variable {P : Program} {w : World} {K : PySem.W.Frag} {mg : Str → Option Value} {base : Heap} {fs : List Fn} {free : List Str} {gi : List (Str × Int)} {gs : List (Str × Str)} {cv : Str → Value}
theorem fn_all (hn : (fs.map (·.name)).Nodup) (hs : ∀ d ∈ fs, Stands K mg fs free gi gs d) (hfree : ∀ x ∈ free, mg x = none) (hgi : ∀ p ∈ gi, ∃ t, mg p.1 = some (.int p.2 t)) (hgs : ∀ p ∈ gs, ∃ t, mg p.1 = some (.str p.2 t)) :
    ∀ (k : Nat), ∀ d ∈ fs, ∃ f fd, mg d.name = some (.ref f) ∧ FnOk P w K mg base (L2.CX P w) k f fd (d.N.take d.np) (spV fs cv k d.name) ∧ PySem.W.keepIn K (.ref f) = true ∧ Binds K fd (d.N.take d.np) []
  | 0, d, hd => by
    obtain ⟨f, fd, x, qual, params, body, scope, h1, h2, h3, h4⟩ := (hs d hd).ex
    exact ⟨f, fd, h1, ⟨fun vs H Q E ⟨_, _, _, _, z⟩ => z.elim, fun A outer s H args us vs Q E hr he hb hv ⟨_, _, _, _, z⟩ => z.elim⟩, h2.kp, h4⟩
  | k + 1, d, hd => by
    obtain ⟨f, fd, x, qual, params, body, scope, h1, h2, h3, h4⟩ := (hs d hd).ex
    exact ⟨f, fd, h1, fn_ok hn hd h2 h3 hfree hgi hgs (fn_all hn hs hfree hgi hgs k), h2.kp, h4⟩
/-- the law's promise out of its run -/
theorem law_sp {k : Nat} {nm : Str} {ns : List Int} {l : Lv} {outs : List Slot} {H : Hp} {a : Addr} (hK : ∀ o, K.lookup a = some o → o.cls ≠ .type "list") (h : runF fs k nm [(.lst (ns.map .int), .sh)] = .ret (.bl true) l outs) (hS : SqL K H a (ns.map V.int)) (E : XK) :
    spV fs cv k nm [.ref a] H (fun v _ => v = .bl true) E := by
  rcases hS with hS | ⟨o, its, n, h1, h2, _⟩
  · have hd : H a ≠ none := by
      rcases hS with z | ⟨o, z⟩ <;> rw [z] <;> simp
    have rl : ∀ ns : List Int, RepL H (fun b => b = a) (ns.map .int) .sh (ns.map V.int) fz := fun ns => by
      induction ns with
      | nil => exact ⟨rfl, rfl⟩
      | cons n ns ih => exact ⟨_, _, fz, fz, rfl, ⟨rfl, rfl⟩, ih, rfl⟩
    refine ⟨[(.lst (ns.map .int), .sh)], fun b => b = a, [fz], ⟨⟨⟨a, _, fz, rfl, rl ns, .inl ⟨rfl, rfl, hS, rfl⟩⟩, trivial⟩, fun b => by simp [tot], fun b _ => by simp [tot], fun b z => by rw [z]; exact hd, fun b z => by simp [tot] at z⟩, ?_⟩
    rw [h]
    exact fun v H' P' Os f S r fr st => r.1
  · exact absurd h2 (hK o h1)
end
/-! ### the head -/
/-- no list among what the module's names reach -/
def noLst (K : PySem.W.Frag) : Bool := K.all fun p => match p.2.cls with
  | .type c => !(c == "list")
  | _ => true
theorem mem_lk {a : Addr} {o : Obj} : ∀ {K : List (Addr × Obj)}, K.lookup a = some o → (a, o) ∈ K
  | [], h => by cases h
  | (b, u) :: r, h => by
    rw [List.lookup_cons] at h
    split at h
    · rename_i hb
      cases h
      rw [beq_iff_eq.mp hb]; exact List.mem_cons_self
    · exact List.mem_cons_of_mem _ (mem_lk h)
theorem noLst_ok {K : PySem.W.Frag} (h : noLst K = true) {a : Addr} {o : Obj} (e : K.lookup a = some o) : o.cls ≠ .type "list" := by
  have hm := mem_lk e
  have := List.all_eq_true.mp h _ hm
  intro z
  dsimp only at this
  rw [z] at this
  simp at this
abbrev AlV : Type := Bool × He.AlD
def obsV (fa : List He.Fa) (fn : List He.DefD) (K : PySem.W.Frag) : AlV := (noLst K, He.obsD fa fn K)
def SaysV (fa : List He.Fa) (fn : List He.DefD) (K : PySem.W.Frag) : Prop := obsV fa fn K = (true, He.valD fn)
def obsVG (n : Nat) (fa : List He.Fa) (fn : List He.DefD) (g : Addr → Option Obj) : AlV := obsV fa fn (He.frG g (He.asD g n))
def hookV (n : Nat) (fa : List He.Fa) (fn : List He.DefD) : PySem.W.Hook where
  α := AlV
  obs := fun s => obsVG n fa fn s.heap.get?
  val := fun _ => (true, He.valD fn)
  says := fun _ h => ∃ K : PySem.W.Frag, K.In h ∧ SaysV fa fn K
  of := fun _ _ e => ⟨_, He.frG_in, e⟩
  keeps := fun _ _ _ ⟨K, hK, c⟩ k => ⟨K, PySem.W.Frag.In.keeps hK k, c⟩
theorem obsVG_eq {n : Nat} {fa : List He.Fa} {fn : List He.DefD} {g : Addr → Option Obj} {s : Shared} (h : ∀ a, g a = s.heap.get? a) : obsVG n fa fn g = (hookV n fa fn).obs s := by
  have e : g = s.heap.get? := funext h
  rw [e] <;> rfl
section
variable {fa : List He.Fa} {fn : List He.DefD} {K : PySem.W.Frag}
theorem SaysV.says (c : SaysV fa fn K) : He.SaysD fa fn K := congrArg (fun z : AlV => z.2) c
theorem SaysV.noL (c : SaysV fa fn K) : noLst K = true := congrArg (fun z : AlV => z.1) c
end
/-- a law, its def among the table's -/
theorem walkV {l : PySem.W.OpenLaw} {n k : Nat} {q : Program} {loose : List Str} {XP : (Str → Option Value) → Heap → Prop} {YP : World → Heap → Prop} {d : DefRec} {x nm : Str} {fs : List Fn} {cv : Str → Value}
    (hn : l.most = some n) (hn2 : n ≤ sizeLine) (hdf : d.params.defaults = []) (hr : Room k callerA)
    (F : ∀ (w : World) (mg : Str → Option Value) (fa : Addr) (h : Heap), YP w h → h.Ns mainGlobals mg → mg d.name = some (.ref fa) →
      ∃ (K : PySem.W.Frag) (fd : FuncData), K.In h ∧ (∀ a o, K.lookup a = some o → o.cls ≠ .type "list") ∧ (∀ (s : Shared) (u : Value), BindsTo s fd ⟨[u], []⟩ [(x, u)]) ∧
        ∀ base : Heap, K.In base → base.Ns mainGlobals mg → FnOk l.prog w K mg base (L2.CX l.prog w) k fa fd [x] (spV fs cv k nm))
    (law : ∀ ns : List Int, ns.length ≤ n → ∃ lv outs, runF fs k nm [(.lst (ns.map .int), .sh)] = .ret (.bl true) lv outs) :
    PySem.W.WalkO q loose XP YP l.row.toRowW d [] (fun f vs => PySem.call f vs) := by
  refine Att.attach_call hn hdf fun w s₀ s₁ mg mb fa o pm cd doc a vs ns G Y ho hd hcd hmg hobj hints hlen hg => ?_
  obtain ⟨K, fd, KX, nl, hb, hF⟩ := F w mg fa _ Y G.T.g hmg
  obtain ⟨lv, outs, hrun⟩ := law ns hlen
  exact law_call KX G.T.g G.T.b G.T.builtins G.T.nolimit hg hobj hints (Nat.le_trans hlen hn2) hr hF hb (fun H hO hS => law_sp (fun o ho => nl a o ho) hrun hS _) fun H e s' c => by
    obtain ⟨_, _, _, _, _, _, _, _, _, _, _, _, z⟩ := c
    exact z
end VI
namespace VI
open PySem PySem.Spec PyProof.Rows L2
/-! ### reckoning with the interpreter -/
theorem beq_dec (a b : Int) : (a == b) = decide (a = b) := by
  by_cases h : a = b
  · subst h; simp
  · rw [decide_eq_false h]; exact beq_eq_false_iff_ne.mpr h
section
variable (cs : CS) (e : Env) (a b c : E) (i : Nat)
/-! what comes behind is not looked at before it is due: it stands in an instance's place -/
class KnR (α β : Type) where
  k : α → Env → R β
class KnF (α : Type) where
  k : α → Env → Fl
class KnS where
  k : Env → Fl
def bindK {α β : Type} (r : R α) [c : KnR α β] : R β := r.bind c.k
def flK {α : Type} (r : R α) [c : KnF α] : Fl := r.fl c.k
def seqK (r : Fl) [c : KnS] : Fl := r.seq c.k
@[simp ↓] theorem bind_lazy {α β : Type} (r : R α) (f : α → Env → R β) : r.bind f = @bindK α β r ⟨f⟩ := rfl
@[simp ↓] theorem fl_lazy {α : Type} (r : R α) (f : α → Env → Fl) : r.fl f = @flK α r ⟨f⟩ := rfl
@[simp ↓] theorem seq_lazy (r : Fl) (f : Env → Fl) : r.seq f = @seqK r ⟨f⟩ := rfl
@[simp] theorem bindK_ok {α β : Type} (x : α) (e : Env) (f : α → Env → R β) : @bindK α β (.ok x e) ⟨f⟩ = f x e := rfl
@[simp] theorem bindK_stk {α β : Type} (f : α → Env → R β) : @bindK α β .stk ⟨f⟩ = .stk := rfl
@[simp] theorem bindK_exc {α β : Type} (c : Str) (e : Env) (f : α → Env → R β) : @bindK α β (.exc c e) ⟨f⟩ = .exc c e := rfl
@[simp] theorem flK_ok {α : Type} (x : α) (e : Env) (f : α → Env → Fl) : @flK α (.ok x e) ⟨f⟩ = f x e := rfl
@[simp] theorem flK_stk {α : Type} (f : α → Env → Fl) : @flK α .stk ⟨f⟩ = .stk := rfl
@[simp] theorem flK_exc {α : Type} (c : Str) (e : Env) (f : α → Env → Fl) : @flK α (.exc c e) ⟨f⟩ = .exc c e := rfl
@[simp] theorem seqK_nx (e : Env) (f : Env → Fl) : @seqK (.nx e) ⟨f⟩ = f e := rfl
@[simp] theorem seqK_ret (d : D) (l : Lv) (e : Env) (f : Env → Fl) : @seqK (.ret d l e) ⟨f⟩ = .ret d l e := rfl
@[simp] theorem seqK_brk (e : Env) (f : Env → Fl) : @seqK (.brk e) ⟨f⟩ = .brk e := rfl
@[simp] theorem seqK_stk (f : Env → Fl) : @seqK .stk ⟨f⟩ = .stk := rfl
@[simp] theorem seqK_exc (c : Str) (e : Env) (f : Env → Fl) : @seqK (.exc c e) ⟨f⟩ = .exc c e := rfl
@[simp] theorem gt_zero (s : Slot) (e : Env) : gt (s :: e) 0 = s := rfl
@[simp] theorem gt_succ (s : Slot) (e : Env) (n : Nat) : gt (s :: e) (n + 1) = gt e n := rfl
@[simp] theorem ofO_some {α : Type} (x : α) (e : Env) : ofO (some x) e = .ok x e := rfl
@[simp] theorem ofO_none {α : Type} (e : Env) : ofO (none : Option α) e = .stk := rfl
@[simp] theorem nxO_some (e : Env) : nxO (some e) = .nx e := rfl
@[simp] theorem im_def (d : D) : im d = .tmp d .full := rfl
def slotD : Slot → Option D
  | .own d _ => some d
  | .none => none
@[simp] theorem slotD_own (d : D) (l : Lv) : slotD (.own d l) = some d := rfl
def varS (i : Nat) (e : Env) : Slot → R VI.X
  | .own _ _ => .ok (.ali i) e
  | .none => .stk
@[simp] theorem varS_own (i : Nat) (e : Env) (d : D) (l : Lv) : varS i e (.own d l) = .ok (.ali i) e := rfl
def movS (i : Nat) (e : Env) : Slot → R VI.X
  | .own d l => .ok (.tmp d l) (e.set i .none)
  | .none => .stk
@[simp] theorem movS_own (i : Nat) (e : Env) (d : D) (l : Lv) : movS i e (.own d l) = .ok (.tmp d l) (e.set i .none) := rfl
def useS (i : Nat) (e : Env) : Slot → R (D × Lv)
  | .own d l => if imm d then .ok (d, .full) e else .ok (d, .sh) (e.set i (.own d .sh))
  | .none => .stk
@[simp] theorem useS_own (i : Nat) (e : Env) (d : D) (l : Lv) : useS i e (.own d l) = if imm d then .ok (d, .full) e else .ok (d, .sh) (e.set i (.own d .sh)) := rfl
@[simp] theorem deref_ali (i : Nat) : deref e (.ali i) = slotD (gt e i) := by
  show (match gt e i with | .own d _ => some d | .none => none) = _
  cases gt e i <;> rfl
@[simp] theorem use_ali (i : Nat) : use e (.ali i) = useS i e (gt e i) := by
  show (match gt e i with
    | .own d l => if imm d then R.ok (d, Lv.full) e else .ok (d, .sh) (e.set i (.own d .sh))
    | .none => .stk) = _
  cases gt e i <;> rfl
@[simp] theorem deref_tmp (d : D) (l : Lv) : deref e (.tmp d l) = some d := rfl
@[simp] theorem imm_int (i : Int) : imm (.int i) = true := rfl
@[simp] theorem imm_bl (i : Bool) : imm (.bl i) = true := rfl
@[simp] theorem imm_str (i : Str) : imm (.str i) = true := rfl
@[simp] theorem imm_non : imm .non = true := rfl
@[simp] theorem imm_lst (ds : List D) : imm (.lst ds) = false := rfl
@[simp] theorem imm_dK (ds : List (Key × D)) : imm (.dK ds) = false := rfl
@[simp] theorem imm_tup (ds : List D) : imm (.tup ds) = immL ds := rfl
@[simp] theorem immL_nil : immL [] = true := rfl
@[simp] theorem immL_cons (d : D) (ds : List D) : immL (d :: ds) = (imm d && immL ds) := rfl
@[simp] theorem pred_full : Lv.full.pred = .full := rfl
@[simp] theorem pred_top : Lv.top.pred = .sh := rfl
@[simp] theorem pred_sh : Lv.sh.pred = .sh := rfl
@[simp] theorem succ_full : Lv.full.succ = .full := rfl
@[simp] theorem succ_sh : Lv.sh.succ = .top := rfl
@[simp] theorem lmin_full : lmin .full .full = .full := rfl
@[simp] theorem line_1 : (1 ≤ sizeLine) = True := by rw [sizeLine_eq]; simp
@[simp] theorem lineb_1 : (1 < sizeLine) = True := by rw [sizeLine_eq]; simp
@[simp] theorem line_2 : (2 ≤ sizeLine) = True := by rw [sizeLine_eq]; simp
@[simp] theorem lineb_2 : (2 < sizeLine) = True := by rw [sizeLine_eq]; simp
@[simp] theorem line_3 : (3 ≤ sizeLine) = True := by rw [sizeLine_eq]; simp
@[simp] theorem lineb_3 : (3 < sizeLine) = True := by rw [sizeLine_eq]; simp
@[simp] theorem line_4 : (4 ≤ sizeLine) = True := by rw [sizeLine_eq]; simp
@[simp] theorem lineb_4 : (4 < sizeLine) = True := by rw [sizeLine_eq]; simp
@[simp] theorem line_5 : (5 ≤ sizeLine) = True := by rw [sizeLine_eq]; simp
@[simp] theorem lineb_5 : (5 < sizeLine) = True := by rw [sizeLine_eq]; simp
@[simp] theorem line_6 : (6 ≤ sizeLine) = True := by rw [sizeLine_eq]; simp
@[simp] theorem lineb_6 : (6 < sizeLine) = True := by rw [sizeLine_eq]; simp
@[simp] theorem line_7 : (7 ≤ sizeLine) = True := by rw [sizeLine_eq]; simp
@[simp] theorem lineb_7 : (7 < sizeLine) = True := by rw [sizeLine_eq]; simp
@[simp] theorem line_8 : (8 ≤ sizeLine) = True := by rw [sizeLine_eq]; simp
@[simp] theorem lineb_8 : (8 < sizeLine) = True := by rw [sizeLine_eq]; simp
@[simp] theorem line_9 : (9 ≤ sizeLine) = True := by rw [sizeLine_eq]; simp
@[simp] theorem lineb_9 : (9 < sizeLine) = True := by rw [sizeLine_eq]; simp
@[simp] theorem line_10 : (10 ≤ sizeLine) = True := by rw [sizeLine_eq]; simp
@[simp] theorem lineb_10 : (10 < sizeLine) = True := by rw [sizeLine_eq]; simp
@[simp] theorem line_11 : (11 ≤ sizeLine) = True := by rw [sizeLine_eq]; simp
@[simp] theorem lineb_11 : (11 < sizeLine) = True := by rw [sizeLine_eq]; simp
@[simp] theorem line_12 : (12 ≤ sizeLine) = True := by rw [sizeLine_eq]; simp
@[simp] theorem lineb_12 : (12 < sizeLine) = True := by rw [sizeLine_eq]; simp

@[simp] theorem addLv_ff : addLv .full .full = .full := rfl
def lvI (d : D) (l : Lv) : Lv := if imm d then .full else l
@[simp] theorem lvI_full (d : D) : lvI d .full = .full := by unfold lvI; split <;> rfl
@[simp] theorem lvI_int (i : Int) (l : Lv) : lvI (.int i) l = .full := rfl
@[simp] theorem lvI_bl (i : Bool) (l : Lv) : lvI (.bl i) l = .full := rfl
@[simp] theorem lvI_str (i : Str) (l : Lv) : lvI (.str i) l = .full := rfl
@[simp] theorem lvI_non (l : Lv) : lvI .non l = .full := rfl
@[simp] theorem lvI_lst (ds : List D) (l : Lv) : lvI (.lst ds) l = l := rfl
@[simp] theorem lvI_dK (ds : List (Key × D)) (l : Lv) : lvI (.dK ds) l = l := rfl
@[simp] theorem use_tmp (d : D) (l : Lv) : use e (.tmp d l) = .ok (d, lvI d l) e := rfl
@[simp] theorem mkL_def (ds : List D) (k : Lv) : mkL ds k = .tmp (.lst ds) k.succ := rfl
@[simp] theorem mkT_def (ds : List D) (k : Lv) : mkT ds k = .tmp (.tup ds) k := rfl
@[simp] theorem bl_nil : bl [] = .nil := rfl
@[simp] theorem bl_cons (s : S) (r : List S) : bl (s :: r) = .cons s (bl r) := rfl
@[simp] theorem execs_nil : execs cs .nil e = .nx e := by rw [execs]
@[simp] theorem execs_cons (s : S) (r : Ss) : execs cs (.cons s r) e = (exec cs s e).seq fun e1 => execs cs r e1 := by rw [execs]
@[simp] theorem ev_int (i : Int) : evalE cs (.int i) e = .ok (.tmp (.int i) .full) e := by rw [evalE]; rfl
@[simp] theorem ev_bl (i : Bool) : evalE cs (.bl i) e = .ok (.tmp (.bl i) .full) e := by rw [evalE]; rfl
@[simp] theorem ev_str (i : Str) : evalE cs (.str i) e = .ok (.tmp (.str i) .full) e := by rw [evalE]; rfl
@[simp] theorem ev_non : evalE cs .non e = .ok (.tmp .non .full) e := by rw [evalE]; rfl
@[simp] theorem ev_gint (x : Str) (i : Int) : evalE cs (.gint x i) e = .ok (.tmp (.int i) .full) e := by rw [evalE]; rfl
@[simp] theorem ev_gstr (x i : Str) : evalE cs (.gstr x i) e = .ok (.tmp (.str i) .full) e := by rw [evalE]; rfl
@[simp] theorem ev_var : evalE cs (.var i) e = varS i e (gt e i) := by
  rw [evalE]
  cases gt e i <;> rfl
@[simp] theorem ev_mov : evalE cs (.mov i) e = movS i e (gt e i) := by
  rw [evalE]
  cases gt e i <;> rfl
@[simp] theorem ev_op (o : Op2) : evalE cs (.op o a b) e = (evalE cs a e).bind fun x e1 => (evalE cs b e1).bind fun y e2 => opX o x y e2 := by rw [evalE] <;> rfl
def negD (e : Env) : Option D → R VI.X
  | some (.int i) => .ok (im (.int (-i))) e
  | _ => .stk
@[simp] theorem negD_i (e : Env) (i : Int) : negD e (some (.int i)) = .ok (im (.int (-i))) e := rfl
@[simp] theorem ev_neg : evalE cs (.neg a) e = (evalE cs a e).bind fun x e1 => negD e1 (deref e1 x) := by rw [evalE] <;> rfl
@[simp] theorem ev_cmp (o : Cm) : evalE cs (.cmp o a b) e = (evalE cs a e).bind fun x e1 => (evalE cs b e1).bind fun y e2 => cmpX o x y e2 := by rw [evalE] <;> rfl
@[simp] theorem ev_and : evalE cs (.and a b) e = (boo (evalE cs a e)).bind fun t e1 => if t then (boo (evalE cs b e1)).bind fun u e2 => .ok (im (.bl u)) e2 else .ok (im (.bl false)) e1 := by rw [evalE] <;> rfl
@[simp] theorem ev_or : evalE cs (.or a b) e = (boo (evalE cs a e)).bind fun t e1 => if t then .ok (im (.bl true)) e1 else (boo (evalE cs b e1)).bind fun u e2 => .ok (im (.bl u)) e2 := by rw [evalE] <;> rfl
@[simp] theorem ev_not : evalE cs (.not a) e = (boo (evalE cs a e)).bind fun t e1 => .ok (im (.bl (!t))) e1 := by rw [evalE] <;> rfl
@[simp] theorem ev_ite : evalE cs (.ite c a b) e = (tst (evalE cs c e)).bind fun t e1 => if t then evalE cs a e1 else evalE cs b e1 := by rw [evalE] <;> rfl
@[simp] theorem ev_sub : evalE cs (.sub a b) e = (evalE cs a e).bind fun x e1 => (evalE cs b e1).bind fun y e2 => subX x y e2 := by rw [evalE] <;> rfl
@[simp] theorem ev_lst (es : Es) : evalE cs (.lst es) e = (evalEs cs es e).bind fun xs e1 => (uses xs e1).bind fun ps e2 => if ps.length ≤ sizeLine then .ok (mkL (ps.map (·.1)) (lall ps)) e2 else .stk := by rw [evalE] <;> rfl
@[simp] theorem ev_tup (es : Es) : evalE cs (.tup es) e = (evalEs cs es e).bind fun xs e1 => (uses xs e1).bind fun ps e2 => if ps.length ≤ sizeLine then .ok (mkT (ps.map (·.1)) (lall ps)) e2 else .stk := by rw [evalE] <;> rfl
@[simp] theorem ev_call (f : Str) (es : Es) : evalE cs (.call f es) e = (evalEs cs es e).bind fun xs e1 => callY cs f xs e1 := by rw [evalE] <;> rfl
@[simp] theorem ev_b1 (k : B1) : evalE cs (.b1 k a) e = (evalE cs a e).bind fun x e1 => b1X k x e1 := by rw [evalE] <;> rfl
@[simp] theorem ev_b2 (k : B2) : evalE cs (.b2 k a c) e = (evalE cs a e).bind fun x e1 => if b2R k (deref e1 x) then (evalE cs c e1).bind fun y e2 => b2X k x y e2 else .stk := by rw [evalE] <;> rfl
@[simp] theorem ev_b3 (k : B3) : evalE cs (.b3 k a b c) e = (evalE cs a e).bind fun x e1 => if b3R k (deref e1 x) then (evalE cs b e1).bind fun y e2 => (evalE cs c e2).bind fun z e3 => b3X k x y z e3 else .stk := by rw [evalE] <;> rfl
@[simp] theorem ev_isin (t : Ty) : evalE cs (.isin a t) e = (evalE cs a e).bind fun x e1 => ofO (((deref e1 x).bind (isTy t)).map fun b => im (.bl b)) e1 := by rw [evalE] <;> rfl
@[simp] theorem ev_disp (es : Es) : evalE cs (.disp es) e = (evalEs cs es e).bind fun xs e1 => dispX (.tmp (.dK []) .full :: xs) e1 := by rw [evalE] <;> rfl
@[simp] theorem ev_rngL (es : Es) : evalE cs (.rngL es) e = (evalEs cs es e).bind fun xs e1 => ofO (((derefs e1 xs).bind rangeOf).bind fun ds => if ds.length ≤ sizeLine then some (mkL ds .full) else none) e1 := by rw [evalE] <;> rfl
@[simp] theorem ev_rngT (es : Es) : evalE cs (.rngT es) e = (evalEs cs es e).bind fun xs e1 => ofO (((derefs e1 xs).bind rangeOf).bind fun ds => if ds.length ≤ sizeLine then some (mkT ds .full) else none) e1 := by rw [evalE] <;> rfl
@[simp] theorem evs_nil : evalEs cs .nil e = .ok [] e := by rw [evalEs]
@[simp] theorem evs_cons (r : Es) : evalEs cs (.cons a r) e = (evalE cs a e).bind fun x e1 => (evalEs cs r e1).bind fun xs e2 => .ok (x :: xs) e2 := by rw [evalEs]
@[simp] theorem evo_no : evalO cs .no e = .ok none e := by rw [evalO]
@[simp] theorem evo_so : evalO cs (.so a) e = intO (evalE cs a e) := by rw [evalO]
@[simp] theorem ex_asg (g : G) : exec cs (.asg g a) e = (evalE cs a e).fl fun x e1 => (use e1 x).fl fun p e2 => nxO (bindG g p.1 p.2 e2) := by rw [exec] <;> rfl
def setS (i : Nat) (p : D × Lv) (k : E) (e2 : Env) : Slot → Fl
  | .own _ _ => (evalE cs k e2).fl fun y e3 => setX i p (deref e3 y) e3
  | .none => .stk
@[simp] theorem setS_own (p : D × Lv) (k : E) (e2 : Env) (d : D) (l : Lv) : setS cs i p k e2 (.own d l) = (evalE cs k e2).fl fun y e3 => setX i p (deref e3 y) e3 := rfl
@[simp] theorem ex_setI (k : E) : exec cs (.setI i k a) e = (evalE cs a e).fl fun x e1 => (use e1 x).fl fun p e2 => setS cs i p k e2 (gt e2 i) := by rw [exec] <;> rfl
def setD (i : Nat) (p : D × Lv) (e3 : Env) : Slot → Option D → Fl
  | .own (.lst ds) lv, some (.int j) => if lv = .sh then .stk else (match ixN ds.length j with
    | some n => .nx (e3.set i (.own (.lst (ds.set n p.1)) (addLv lv p.2)))
    | none => .stk)
  | .own (.dK kvs) lv, some k => if lv = .sh then .stk else (match key1 k with
    | some k => if kvs.length < sizeLine ∧ (imm p.1 = true ∨ (kvs.map (·.1)).Nodup) then .nx (e3.set i (.own (.dK (dputK k p.1 kvs)) (addLv lv p.2))) else .stk
    | none => .stk)
  | _, _ => .stk
@[simp] theorem setX_def (p : D × Lv) (y : Option D) (e3 : Env) : setX i p y e3 = setD i p e3 (gt e3 i) y := rfl
def nxN (f : Nat → Fl) : Option Nat → Fl
  | some n => f n
  | none => .stk
@[simp] theorem nxN_some (f : Nat → Fl) (n : Nat) : nxN f (some n) = f n := rfl
@[simp] theorem setD_l (p : D × Lv) (e3 : Env) (ds : List D) (lv : Lv) (j : Int) : setD i p e3 (.own (.lst ds) lv) (some (.int j)) = if lv = .sh then .stk else nxN (fun n => .nx (e3.set i (.own (.lst (ds.set n p.1)) (addLv lv p.2)))) (ixN ds.length j) := by
  show (if lv = .sh then Fl.stk else (match ixN ds.length j with | some n => .nx (e3.set i (.own (.lst (ds.set n p.1)) (addLv lv p.2))) | none => .stk)) = _
  cases ixN ds.length j <;> rfl
@[simp] theorem ex_ite (s1 s2 : Ss) : exec cs (.ite c s1 s2) e = (tst (evalE cs c e)).fl fun t e1 => if t then execs cs s1 e1 else execs cs s2 e1 := by rw [exec] <;> rfl
@[simp] theorem ex_ret : exec cs (.ret a) e = (evalE cs a e).fl fun x e1 => (use e1 x).fl fun p e2 => .ret p.1 p.2 e2 := by rw [exec] <;> rfl
@[simp] theorem ex_rtn : exec cs .rtn e = .ret .non .full e := by rw [exec] <;> rfl
@[simp] theorem ex_ex : exec cs (.ex a) e = (evalE cs a e).fl fun _ e1 => .nx e1 := by rw [exec] <;> rfl
def appD (i : Nat) (p : D × Lv) (e2 : Env) : Slot → Fl
  | .own (.lst ds) lv => if lv ≠ Lv.sh ∧ ds.length < sizeLine then .nx (e2.set i (.own (.lst (ds ++ [p.1])) (addLv lv p.2))) else .stk
  | _ => .stk
@[simp] theorem appD_l (p : D × Lv) (e2 : Env) (ds : List D) (lv : Lv) : appD i p e2 (.own (.lst ds) lv) = if lv ≠ Lv.sh ∧ ds.length < sizeLine then .nx (e2.set i (.own (.lst (ds ++ [p.1])) (addLv lv p.2))) else .stk := rfl
def ifL (r : Fl) : Slot → Fl
  | .own (.lst _) _ => r
  | _ => .stk
@[simp] theorem ifL_l (r : Fl) (ds : List D) (lv : Lv) : ifL r (.own (.lst ds) lv) = r := rfl
@[simp] theorem ex_app : exec cs (.app i a) e = ifL ((evalE cs a e).fl fun x e1 => (use e1 x).fl fun p e2 => appD i p e2 (gt e2 i)) (gt e i) := by
  rw [exec]
  cases gt e i with
  | none => rfl
  | own d l => cases d <;> first | rfl | (congr 1; funext x e1; congr 1; funext p e2; cases gt e2 i with | none => rfl | own d l => cases d <;> rfl)
def rvsD (i : Nat) (e : Env) : Slot → Fl
  | .own (.lst ds) lv => if lv = .sh then .stk else .nx (e.set i (.own (.lst ds.reverse) lv))
  | _ => .stk
@[simp] theorem rvsD_l (ds : List D) (lv : Lv) : rvsD i e (.own (.lst ds) lv) = if lv = .sh then .stk else .nx (e.set i (.own (.lst ds.reverse) lv)) := rfl
@[simp] theorem ex_rvs : exec cs (.rvs i) e = rvsD i e (gt e i) := by
  rw [exec]
  cases gt e i with
  | none => rfl
  | own d l => cases d <;> rfl
@[simp] theorem bindG_nm (d : D) (l : Lv) : bindG (.nm i) d l e = if i < e.length then some (e.set i (.own d (lvI d l))) else none := by rw [bindG] <;> rfl
/-! operators by what stands there -/
def opLL (x y : VI.X) (e : Env) : R VI.X := (kids e x).bind fun p e1 => (kids e1 y).bind fun q e2 => if p.1.length + q.1.length ≤ sizeLine then .ok (mkL (p.1 ++ q.1) (lmin p.2 q.2)) e2 else .stk
def opTT (x y : VI.X) (e : Env) : R VI.X := (kids e x).bind fun p e1 => (kids e1 y).bind fun q e2 => if p.1.length + q.1.length ≤ sizeLine then .ok (mkT (p.1 ++ q.1) (lmin p.2 q.2)) e2 else .stk
def opLM (x : VI.X) (e : Env) (ds : List D) (k : Int) : R VI.X := if ownT x = true ∧ immL ds ∧ -(2 ^ 63) ≤ k ∧ k < 2 ^ 63 ∧ ds.length * k.toNat ≤ sizeLine then .ok (mkL ((List.replicate k.toNat ds).flatten) .full) e else .stk
def opD (o : Op2) (x y : VI.X) (e : Env) (a b : Option D) : R VI.X := match a, b, o with
  | some (.int i), some (.int j), o => ofO ((opI o i j).map fun k => im (.int k)) e
  | some (.lst _), some (.lst _), .add => opLL x y e
  | some (.tup _), some (.tup _), .add => opTT x y e
  | some (.lst ds), some (.int k), .mul => opLM x e ds k
  | _, _, o => opX o x y e
@[simp] theorem opX_def (o : Op2) (x y : VI.X) : opX o x y e = opD o x y e (deref e x) (deref e y) := by
  cases h1 : deref e x with
  | none => cases o <;> rfl
  | some a =>
    cases h2 : deref e y with
    | none => cases a <;> cases o <;> rfl
    | some b => cases a <;> cases b <;> first | (unfold opX opD; rw [h1, h2]; done) | (cases o <;> first | rfl | (unfold opX; rw [h1, h2]; rfl))
@[simp] theorem opD_ll (x y : VI.X) (ds es : List D) : opD .add x y e (some (.lst ds)) (some (.lst es)) = opLL x y e := rfl
@[simp] theorem opD_tt (x y : VI.X) (ds es : List D) : opD .add x y e (some (.tup ds)) (some (.tup es)) = opTT x y e := rfl
@[simp] theorem opD_lm (x y : VI.X) (ds : List D) (k : Int) : opD .mul x y e (some (.lst ds)) (some (.int k)) = opLM x e ds k := rfl
@[simp] theorem ownT_full (d : D) : ownT (.tmp d .full) = true := rfl
@[simp] theorem ownT_top (d : D) : ownT (.tmp d .top) = true := rfl
@[simp] theorem opD_ii (o : Op2) (x y : VI.X) (i j : Int) : opD o x y e (some (.int i)) (some (.int j)) = ofO ((opI o i j).map fun k => im (.int k)) e := rfl
@[simp] theorem opI_add (i j : Int) : opI .add i j = some (i + j) := rfl
@[simp] theorem opI_sub (i j : Int) : opI .sub i j = some (i - j) := rfl
@[simp] theorem opI_mul (i j : Int) : opI .mul i j = if CMul i j then some (i * j) else if CMulW i j then some (i * j) else none := rfl
@[simp] theorem opI_mod (i j : Int) : opI .mod i j = if 0 < j then some (i % j) else none := rfl
@[simp] theorem opI_fdiv (i j : Int) : opI .fdiv i j = if CDiv i j then some (i / j) else if CDivW i j then some (i / j) else none := rfl
@[simp] theorem opI_pow (i j : Int) : opI .pow i j = if CPow i j then some (i ^ j.toNat) else if CPowW i j then some (i ^ j.toNat) else none := rfl
def cmpO (o : Cm) (e : Env) : Option D → Option D → R VI.X
  | some a, some b => ofO ((cmpD o a b).map fun t => im (.bl t)) e
  | _, _ => .stk
@[simp] theorem cmpO_s (o : Cm) (a b : D) : cmpO o e (some a) (some b) = ofO ((cmpD o a b).map fun t => im (.bl t)) e := rfl
@[simp] theorem cmpX_def (o : Cm) (x y : VI.X) : cmpX o x y e = cmpO o e (deref e x) (deref e y) := by
  unfold cmpX cmpO
  cases deref e x <;> cases deref e y <;> rfl
def itmD (x : VI.X) (e : Env) : Option D → R VI.X
  | some d => if imm d then .ok (im d) e else (kids e x).bind fun p e1 => .ok (.tmp d p.2) e1
  | none => .stk
@[simp] theorem itmD_s (x : VI.X) (d : D) : itmD x e (some d) = if imm d then .ok (im d) e else (kids e x).bind fun p e1 => .ok (.tmp d p.2) e1 := rfl
def subD (x y : VI.X) (e : Env) : Option D → Option D → R VI.X
  | some (.lst ds), some (.int i) => itmD x e (atI ds i)
  | some (.tup ds), some (.int i) => itmD x e (atI ds i)
  | some (.dK kvs), some k => ofO ((key1 k).bind fun k => (dlookK k kvs).bind fun d => if imm d then some (im d) else none) e
  | _, _ => subX x y e
@[simp] theorem subX_def (x y : VI.X) : subX x y e = subD x y e (deref e x) (deref e y) := by
  unfold subD
  split
  · rename_i h1 h2
    unfold subX itmD
    rw [h1, h2] <;> (dsimp only; split <;> rename_i h3 <;> rw [h3])
  · rename_i h1 h2
    unfold subX itmD
    rw [h1, h2] <;> (dsimp only; split <;> rename_i h3 <;> rw [h3])
  · rename_i h1 h2
    unfold subX
    rw [h1, h2]
  · rfl
@[simp] theorem subD_l (x y : VI.X) (ds : List D) (i : Int) : subD x y e (some (.lst ds)) (some (.int i)) = itmD x e (atI ds i) := rfl
@[simp] theorem subD_t (x y : VI.X) (ds : List D) (i : Int) : subD x y e (some (.tup ds)) (some (.int i)) = itmD x e (atI ds i) := rfl
@[simp] theorem subD_k (x y : VI.X) (kvs : List (Key × D)) (k : D) : subD x y e (some (.dK kvs)) (some k) = ofO ((key1 k).bind fun k => (dlookK k kvs).bind fun d => if imm d then some (im d) else none) e := by cases k <;> rfl
@[simp] theorem cmpD_eq_i (i j : Int) : cmpD .eq (.int i) (.int j) = some (decide (i = j)) := by
  show (if shapedD (.int i) && shapedD (.int j) then some (PyData.eqv (.int i) (.int j)) else none) = _
  rw [show shapedD (.int i) = true from rfl, show shapedD (.int j) = true from rfl]
  simp only [PyData.eqv, Bool.and_self, if_true]
  rw [beq_dec]
@[simp] theorem cmpD_ne_i (i j : Int) : cmpD .ne (.int i) (.int j) = some (!decide (i = j)) := by
  show (if shapedD (.int i) && shapedD (.int j) then some (!PyData.eqv (.int i) (.int j)) else none) = _
  rw [show shapedD (.int i) = true from rfl, show shapedD (.int j) = true from rfl]
  simp only [PyData.eqv, Bool.and_self, if_true]
  rw [beq_dec]
@[simp] theorem cmpD_lt_i (i j : Int) : cmpD .lt (.int i) (.int j) = some (decide (i < j)) := rfl
@[simp] theorem cmpD_le_i (i j : Int) : cmpD .le (.int i) (.int j) = some (decide (i ≤ j)) := rfl
@[simp] theorem cmpD_gt_i (i j : Int) : cmpD .gt (.int i) (.int j) = some (decide (j < i)) := rfl
@[simp] theorem cmpD_ge_i (i j : Int) : cmpD .ge (.int i) (.int j) = some (decide (j ≤ i)) := rfl
@[simp] theorem tst_ok (x : VI.X) (e : Env) : tst (.ok x e) = ofO ((deref e x).bind truthy) e := rfl
def booD (e : Env) : Option D → R Bool
  | some (.bl b) => .ok b e
  | _ => .stk
@[simp] theorem booD_b (b : Bool) : booD e (some (.bl b)) = .ok b e := rfl
@[simp] theorem boo_ok (x : VI.X) (e : Env) : boo (.ok x e) = booD e (deref e x) := rfl
def intD (e : Env) : Option D → R (Option Int)
  | some (.int i) => .ok (some i) e
  | _ => .stk
@[simp] theorem intD_i (i : Int) : intD e (some (.int i)) = .ok (some i) e := rfl
@[simp] theorem intO_ok (x : VI.X) (e : Env) : intO (.ok x e) = intD e (deref e x) := rfl
@[simp] theorem truthy_bl (b : Bool) : truthy (.bl b) = some b := rfl
@[simp] theorem truthy_int (b : Int) : truthy (.int b) = some (b != 0) := rfl
@[simp] theorem derefs_nil (e : Env) : derefs e [] = some [] := rfl
def consO {α : Type} : Option α → Option (List α) → Option (List α)
  | some d, some ds => some (d :: ds)
  | _, _ => none
@[simp] theorem consO_s {α : Type} (d : α) (ds : List α) : consO (some d) (some ds) = some (d :: ds) := rfl
@[simp] theorem derefs_cons' (e : Env) (x : VI.X) (xs : List VI.X) : derefs e (x :: xs) = consO (deref e x) (derefs e xs) := by
  show (match deref e x, derefs e xs with | some d, some ds => some (d :: ds) | _, _ => none) = _
  cases deref e x <;> cases derefs e xs <;> rfl
@[simp] theorem uses_nil (e : Env) : uses [] e = .ok [] e := rfl
@[simp] theorem uses_cons (e : Env) (x : VI.X) (xs : List VI.X) : uses (x :: xs) e = (use e x).bind fun p e1 => (uses xs e1).bind fun ps e2 => .ok (p :: ps) e2 := rfl
@[simp] theorem lall_nil : lall [] = .full := rfl
@[simp] theorem lall_cons (d : D) (l : Lv) (r : List (D × Lv)) : lall ((d, l) :: r) = lmin l (lall r) := rfl
end
/-! what is walked, what is kept of a list -/
def lvK (ds : List D) (l : Lv) : Lv := if immL ds then .full else l.pred
@[simp] theorem lvK_full (ds : List D) : lvK ds .full = .full := by unfold lvK; split <;> rfl
@[simp] theorem lvK_nil (l : Lv) : lvK [] l = .full := rfl
@[simp] theorem immL_ints (xs : List Int) : immL (xs.map D.int) = true := by induction xs <;> simp [*]
@[simp] theorem immL_bls (xs : List Bool) : immL (xs.map D.bl) = true := by induction xs <;> simp [*]
@[simp] theorem lvK_ints (xs : List Int) (l : Lv) : lvK (xs.map D.int) l = .full := by unfold lvK; simp
@[simp] theorem walkD_lst (ds : List D) (l : Lv) : walkD (.lst ds) l = some (ds.map fun d => (d, lvK ds l)) := rfl
@[simp] theorem walkD_tup (ds : List D) (l : Lv) : walkD (.tup ds) l = some (ds.map fun d => (d, lvK ds l)) := rfl
@[simp] theorem walkS_lst (ds : List D) (l : Lv) : walkS (.lst ds) l = some (ds.map fun d => (d, lvK ds l)) := rfl
@[simp] theorem walkS_tup (ds : List D) (l : Lv) : walkS (.tup ds) l = some (ds.map fun d => (d, lvK ds l)) := rfl
@[simp] theorem kids_lst (e : Env) (ds : List D) (l : Lv) : kids e (.tmp (.lst ds) l) = .ok (ds, lvK ds l) e := rfl
@[simp] theorem kids_tup (e : Env) (ds : List D) (l : Lv) : kids e (.tmp (.tup ds) l) = .ok (ds, lvK ds l) e := rfl
def kidS (i : Nat) (e : Env) : Slot → R (List D × Lv)
  | .own (.lst ds) l => if immL ds then .ok (ds, .full) e else .ok (ds, .sh) (e.set i (.own (.lst ds) (if l = .sh then .sh else .top)))
  | .own (.tup ds) l => if immL ds then .ok (ds, .full) e else .ok (ds, .sh) (e.set i (.own (.tup ds) .sh))
  | _ => .stk
@[simp] theorem kids_ali (e : Env) (i : Nat) : kids e (.ali i) = kidS i e (gt e i) := by
  show (match gt e i with
    | .own (.lst ds) l => if immL ds then R.ok (ds, Lv.full) e else .ok (ds, Lv.sh) (e.set i (.own (.lst ds) (if l = Lv.sh then Lv.sh else Lv.top)))
    | .own (.tup ds) l => if immL ds then .ok (ds, .full) e else .ok (ds, Lv.sh) (e.set i (.own (.tup ds) Lv.sh))
    | _ => .stk) = _
  cases gt e i with
  | none => rfl
  | own d l => cases d <;> rfl
@[simp] theorem kidS_l (i : Nat) (e : Env) (ds : List D) (l : Lv) : kidS i e (.own (.lst ds) l) = if immL ds then .ok (ds, .full) e else .ok (ds, .sh) (e.set i (.own (.lst ds) (if l = .sh then .sh else .top))) := rfl
@[simp] theorem kidS_t (i : Nat) (e : Env) (ds : List D) (l : Lv) : kidS i e (.own (.tup ds) l) = if immL ds then .ok (ds, .full) e else .ok (ds, .sh) (e.set i (.own (.tup ds) .sh)) := rfl
def b1D (b : B1) (x : VI.X) (e : Env) : Option D → R VI.X
  | some (.lst ds) => match b with
    | .len => .ok (im (.int ds.length)) e
    | .list => (kids e x).bind fun p e1 => .ok (mkL p.1 p.2) e1
    | .tuple => (kids e x).bind fun p e1 => .ok (mkT p.1 p.2) e1
    | .rev => (kids e x).bind fun p e1 => .ok (mkL p.1.reverse p.2) e1
    | .all => ofO ((boolsD ds).map fun ns => im (.bl (ns.all id))) e
    | .sum => ofO ((intsD ds).map fun ns => im (.int ns.sum)) e
    | b => b1X b x e
  | some (.tup ds) => match b with
    | .len => .ok (im (.int ds.length)) e
    | .list => (kids e x).bind fun p e1 => .ok (mkL p.1 p.2) e1
    | .tuple => (kids e x).bind fun p e1 => .ok (mkT p.1 p.2) e1
    | b => b1X b x e
  | some (.int i) => match b with
    | .abs => .ok (im (.int (if i < 0 then -i else i))) e
    | .int => .ok (im (.int i)) e
    | b => b1X b x e
  | some (.bl i) => match b with
    | .int => .ok (im (.int (if i then 1 else 0))) e
    | b => b1X b x e
  | _ => b1X b x e
@[simp] theorem b1X_def (b : B1) (x : VI.X) (e : Env) : b1X b x e = b1D b x e (deref e x) := by
  cases h : deref e x with
  | none => rfl
  | some d => cases d <;> cases b <;> first | rfl | (unfold b1X b1D; rw [h])
@[simp] theorem b1_len_l (x : VI.X) (e : Env) (ds : List D) : b1D .len x e (some (.lst ds)) = .ok (im (.int ds.length)) e := rfl
@[simp] theorem b1_len_t (x : VI.X) (e : Env) (ds : List D) : b1D .len x e (some (.tup ds)) = .ok (im (.int ds.length)) e := rfl
@[simp] theorem b1_list_l (x : VI.X) (e : Env) (ds : List D) : b1D .list x e (some (.lst ds)) = (kids e x).bind fun p e1 => .ok (mkL p.1 p.2) e1 := rfl
@[simp] theorem b1_list_t (x : VI.X) (e : Env) (ds : List D) : b1D .list x e (some (.tup ds)) = (kids e x).bind fun p e1 => .ok (mkL p.1 p.2) e1 := rfl
@[simp] theorem b1_tuple_l (x : VI.X) (e : Env) (ds : List D) : b1D .tuple x e (some (.lst ds)) = (kids e x).bind fun p e1 => .ok (mkT p.1 p.2) e1 := rfl
@[simp] theorem b1_tuple_t (x : VI.X) (e : Env) (ds : List D) : b1D .tuple x e (some (.tup ds)) = (kids e x).bind fun p e1 => .ok (mkT p.1 p.2) e1 := rfl
@[simp] theorem b1_rev (x : VI.X) (e : Env) (ds : List D) : b1D .rev x e (some (.lst ds)) = (kids e x).bind fun p e1 => .ok (mkL p.1.reverse p.2) e1 := rfl
@[simp] theorem b1_all (x : VI.X) (e : Env) (ds : List D) : b1D .all x e (some (.lst ds)) = ofO ((boolsD ds).map fun ns => im (.bl (ns.all id))) e := rfl
@[simp] theorem b1_sum (x : VI.X) (e : Env) (ds : List D) : b1D .sum x e (some (.lst ds)) = ofO ((intsD ds).map fun ns => im (.int ns.sum)) e := rfl
@[simp] theorem b1_abs (x : VI.X) (e : Env) (i : Int) : b1D .abs x e (some (.int i)) = .ok (im (.int (if i < 0 then -i else i))) e := rfl
@[simp] theorem b1_int (x : VI.X) (e : Env) (i : Int) : b1D .int x e (some (.int i)) = .ok (im (.int i)) e := rfl
@[simp] theorem b1_intb (x : VI.X) (e : Env) (i : Bool) : b1D .int x e (some (.bl i)) = .ok (im (.int (if i then 1 else 0))) e := rfl
@[simp] theorem intsD_ints (xs : List Int) : intsD (xs.map D.int) = some xs := by
  induction xs with
  | nil => rfl
  | cons x xs ih => show (intsD (xs.map D.int)).map (x :: ·) = _; rw [ih]; rfl
@[simp] theorem boolsD_bls (xs : List Bool) : boolsD (xs.map D.bl) = some xs := by
  induction xs with
  | nil => rfl
  | cons x xs ih => show (boolsD (xs.map D.bl)).map (x :: ·) = _; rw [ih]; rfl
def mmD (mx : Bool) (e : Env) : Option D → Option D → R VI.X
  | some (.int i), some (.int j) => .ok (im (.int (if mx then (if j > i then j else i) else if j < i then j else i))) e
  | _, _ => .stk
@[simp] theorem mmD_i (mx : Bool) (e : Env) (i j : Int) : mmD mx e (some (.int i)) (some (.int j)) = .ok (im (.int (if mx then (if j > i then j else i) else if j < i then j else i))) e := rfl
@[simp] theorem b2_min (x y : VI.X) (e : Env) : b2X .min x y e = mmD false e (deref e x) (deref e y) := by
  show (match deref e x, deref e y with
    | some (.int i), some (.int j) => R.ok (im (.int (if false then (if j > i then j else i) else if j < i then j else i))) e
    | _, _ => .stk) = _
  cases deref e x with
  | none => rfl
  | some a => cases a <;> first | rfl | (cases deref e y with | none => rfl | some b => cases b <;> rfl)
@[simp] theorem b2_max (x y : VI.X) (e : Env) : b2X .max x y e = mmD true e (deref e x) (deref e y) := by
  show (match deref e x, deref e y with
    | some (.int i), some (.int j) => R.ok (im (.int (if true then (if j > i then j else i) else if j < i then j else i))) e
    | _, _ => .stk) = _
  cases deref e x with
  | none => rfl
  | some a => cases a <;> first | rfl | (cases deref e y with | none => rfl | some b => cases b <;> rfl)
@[simp] theorem b2_count (x y : VI.X) (e : Env) : b2X .count x y e = cntX x y e := by unfold b2X; rfl
@[simp] theorem b2R_count' (ds : List D) : b2R .count (some (.lst ds)) = true := by unfold b2R; rfl
@[simp] theorem b2R_min (o : Option D) : b2R .min o = true := by unfold b2R; rfl
@[simp] theorem b2R_max (o : Option D) : b2R .max o = true := by unfold b2R; rfl
/-! ### data of one kind: equality -/
structure DE {α : Type} [DecidableEq α] (f : α → D) (n : Nat) : Prop where
  eq : ∀ a b, PyData.eqv (py (f a)) (py (f b)) = decide (a = b)
  lay : ∀ a, (py (f a)).canLay0 = true
  dep : ∀ a, (py (f a)).depth ≤ n
theorem DE_int : DE D.int 0 := ⟨fun a b => by simp only [py, PyData.eqv]; exact beq_dec _ _, fun a => by simp [py, PyData.canLay0], fun a => by simp [py, PyData.depth]⟩
theorem DE_bl : DE D.bl 0 := ⟨fun a b => by simp only [py, PyData.eqv]; cases a <;> cases b <;> rfl, fun a => by simp [py, PyData.canLay0], fun a => by simp [py, PyData.depth]⟩
theorem pyL_map {α : Type} (f : α → D) : ∀ xs : List α, pyL (xs.map f) = xs.map fun a => py (f a)
  | [] => rfl
  | x :: xs => by
    show py (f x) :: pyL (xs.map f) = _
    rw [pyL_map f xs]; rfl
section
variable {α : Type} [DecidableEq α] {f : α → D} {n : Nat}
theorem DE.eqL (h : DE f n) : ∀ xs ys : List α, PyData.eqvAll (pyL (xs.map f)) (pyL (ys.map f)) = decide (xs = ys)
  | [], [] => by simp [pyL, PyData.eqvAll]
  | [], _ :: _ => by simp [pyL, PyData.eqvAll]
  | _ :: _, [] => by simp [pyL, PyData.eqvAll]
  | x :: xs, y :: ys => by
    show PyData.eqvAll (py (f x) :: pyL (xs.map f)) (py (f y) :: pyL (ys.map f)) = _
    simp only [PyData.eqvAll, h.eq, h.eqL xs ys]
    by_cases h1 : x = y <;> by_cases h2 : xs = ys <;> simp [h1, h2]
theorem DE.layL (h : DE f n) : ∀ xs : List α, PyData.canLayAll0 (pyL (xs.map f)) = true
  | [] => by simp [pyL, PyData.canLayAll0]
  | x :: xs => by
    show PyData.canLayAll0 (py (f x) :: pyL (xs.map f)) = true
    simp [PyData.canLayAll0, h.lay, h.layL xs]
theorem DE.depL (h : DE f n) : ∀ xs : List α, PyData.depthAll (pyL (xs.map f)) ≤ n
  | [] => by simp [pyL, PyData.depthAll]
  | x :: xs => by
    show PyData.depthAll (py (f x) :: pyL (xs.map f)) ≤ n
    have h1 := h.dep x
    have h2 := h.depL xs
    simp [PyData.depthAll]; omega
theorem DE.lst (h : DE f n) : DE (fun xs : List α => D.lst (xs.map f)) (n + 1) := ⟨fun a b => by simp only [py, PyData.eqv]; exact h.eqL a b, fun a => by simp only [py, PyData.canLay0]; exact h.layL a, fun a => by
  have := h.depL a
  simp [py, PyData.depth]; omega⟩
theorem DE.tup (h : DE f n) : DE (fun xs : List α => D.tup (xs.map f)) (n + 1) := ⟨fun a b => by simp only [py, PyData.eqv]; exact h.eqL a b, fun a => by simp only [py, PyData.canLay0]; exact h.layL a, fun a => by
  have := h.depL a
  simp [py, PyData.depth]; omega⟩
theorem DE.shaped (h : DE f n) (hn : n ≤ 64) (a : α) : shapedD (f a) = true := by
  unfold shapedD SeqAt.shaped
  have := h.dep a
  simp [h.lay a]; omega
theorem DE.cmpEq (h : DE f n) (hn : n ≤ 64) (a b : α) : cmpD .eq (f a) (f b) = some (decide (a = b)) := by
  have e : cmpD .eq (f a) (f b) = if shapedD (f a) && shapedD (f b) then some (PyData.eqv (py (f a)) (py (f b))) else none := by
    cases f a <;> cases f b <;> rfl
  rw [e, h.shaped hn, h.shaped hn, h.eq]; rfl
theorem DE.cmpNe (h : DE f n) (hn : n ≤ 64) (a b : α) : cmpD .ne (f a) (f b) = some (!decide (a = b)) := by
  have e : cmpD .ne (f a) (f b) = if shapedD (f a) && shapedD (f b) then some (!PyData.eqv (py (f a)) (py (f b))) else none := by
    cases f a <;> cases f b <;> rfl
  rw [e, h.shaped hn, h.shaped hn, h.eq]; rfl
theorem DE.any (h : DE f n) (a : α) (xs : List α) : ((xs.map f).any fun z => PyData.eqv (py z) (py (f a))) = decide (a ∈ xs) := by
  induction xs with
  | nil => rfl
  | cons x xs ih =>
    rw [List.map_cons, List.any_cons, ih, h.eq]
    by_cases e : x = a
    · subst e; simp
    · have e' : ¬ a = x := fun z => e z.symm
      by_cases m : a ∈ xs <;> simp [e, e', m]
theorem DE.cmpIn (h : DE f n) (hn : n < 64) (a : α) (xs : List α) : cmpD .isin (f a) (.lst (xs.map f)) = some (decide (a ∈ xs)) := by
  have e : cmpD .isin (f a) (.lst (xs.map f)) = if shapedD (f a) && shapedD (.lst (xs.map f)) then some ((xs.map f).any fun z => PyData.eqv (py z) (py (f a))) else none := by
    cases f a <;> rfl
  rw [e, h.shaped (by omega), h.lst.shaped (by omega), h.any]; rfl
theorem DE.cmpNotIn (h : DE f n) (hn : n < 64) (a : α) (xs : List α) : cmpD .notin (f a) (.lst (xs.map f)) = some (!decide (a ∈ xs)) := by
  have e : cmpD .notin (f a) (.lst (xs.map f)) = if shapedD (f a) && shapedD (.lst (xs.map f)) then some (!(xs.map f).any fun z => PyData.eqv (py z) (py (f a))) else none := by
    cases f a <;> rfl
  rw [e, h.shaped (by omega), h.lst.shaped (by omega), h.any]; rfl
end
/-- a pair of ints -/
def tup2 (p : Int × Int) : D := .tup [.int p.1, .int p.2]
theorem DE_tup2 : DE tup2 1 := ⟨fun a b => by
  obtain ⟨a1, a2⟩ := a
  obtain ⟨b1, b2⟩ := b
  simp [tup2, py, pyL, PyData.eqv, PyData.eqvAll, beq_dec], fun a => by simp [tup2, py, pyL, PyData.canLay0, PyData.canLayAll0], fun a => by simp [tup2, py, pyL, PyData.depth, PyData.depthAll]⟩
@[simp] theorem imm_tup2 (p : Int × Int) : imm (tup2 p) = true := rfl
@[simp] theorem immL_tup2 (xs : List (Int × Int)) : immL (xs.map tup2) = true := by induction xs <;> simp [*]
@[simp] theorem lvK_tup2 (xs : List (Int × Int)) (l : Lv) : lvK (xs.map tup2) l = .full := by unfold lvK; simp
@[simp] theorem lvI_tup2 (p : Int × Int) (l : Lv) : lvI (tup2 p) l = .full := rfl
/-! ### calls -/
def argS : Slot → Option (D × Lv)
  | .own d l => if l = .sh then none else some (d, l)
  | .none => none
@[simp] theorem argS_own (d : D) (l : Lv) : argS (.own d l) = if l = .sh then none else some (d, l) := rfl
@[simp] theorem argOf_t (e : Env) (i : Nat) : argOf e true (.ali i) = argS (gt e i) := by
  show (match gt e i with | .own d l => if l = Lv.sh then none else some (d, l) | .none => none) = _
  cases gt e i <;> rfl
@[simp] theorem argOf_f (e : Env) (x : VI.X) : argOf e false x = (deref e x).map fun d => (d, Lv.sh) := by cases x <;> rfl
@[simp] theorem argsOf_nil (e : Env) (ms : List Bool) : argsOf e ms [] = some [] := by unfold argsOf; rfl
@[simp] theorem argsOf_cons (e : Env) (m : Bool) (ms : List Bool) (x : VI.X) (xs : List VI.X) : argsOf e (m :: ms) (x :: xs) = consO (argOf e m x) (argsOf e ms xs) := by
  show (match argOf e m x, argsOf e ms xs with | some a, some as => some (a :: as) | _, _ => none) = _
  cases argOf e m x <;> cases argsOf e ms xs <;> rfl
@[simp] theorem inSl_nil (ms : List Bool) : inSl ms [] = [] := by unfold inSl; rfl
@[simp] theorem inSl_tmp (m : Bool) (ms : List Bool) (d : D) (l : Lv) (xs : List VI.X) : inSl (m :: ms) (.tmp d l :: xs) = inSl ms xs := rfl
@[simp] theorem inSl_at (ms : List Bool) (i : Nat) (xs : List VI.X) : inSl (true :: ms) (.ali i :: xs) = i :: inSl ms xs := rfl
@[simp] theorem inSl_af (ms : List Bool) (i : Nat) (xs : List VI.X) : inSl (false :: ms) (.ali i :: xs) = inSl ms xs := rfl
@[simp] theorem noSl_nil (ms : List Bool) : noSl ms [] = [] := by unfold noSl; rfl
@[simp] theorem noSl_tmp (m : Bool) (ms : List Bool) (d : D) (l : Lv) (xs : List VI.X) : noSl (m :: ms) (.tmp d l :: xs) = noSl ms xs := rfl
@[simp] theorem noSl_at (ms : List Bool) (i : Nat) (xs : List VI.X) : noSl (true :: ms) (.ali i :: xs) = noSl ms xs := rfl
@[simp] theorem noSl_af (ms : List Bool) (i : Nat) (xs : List VI.X) : noSl (false :: ms) (.ali i :: xs) = i :: noSl ms xs := rfl
@[simp] theorem backTo_nil (e : Env) (ms : List Bool) (os : List Slot) : backTo e ms [] os = e := by unfold backTo; rfl
@[simp] theorem backTo_tmp (e : Env) (m : Bool) (ms : List Bool) (d : D) (l : Lv) (xs : List VI.X) (o : Slot) (os : List Slot) : backTo e (m :: ms) (.tmp d l :: xs) (o :: os) = backTo e ms xs os := rfl
@[simp] theorem backTo_at (e : Env) (ms : List Bool) (i : Nat) (xs : List VI.X) (o : Slot) (os : List Slot) : backTo e (true :: ms) (.ali i :: xs) (o :: os) = backTo (e.set i o) ms xs os := rfl
@[simp] theorem backTo_af (e : Env) (ms : List Bool) (i : Nat) (xs : List VI.X) (o : Slot) (os : List Slot) : backTo e (false :: ms) (.ali i :: xs) (o :: os) = backTo e ms xs os := rfl
@[simp] theorem killAll_nil (e : Env) : killAll e [] = e := rfl
@[simp] theorem killAll_cons (e : Env) (i : Nat) (is : List Nat) : killAll e (i :: is) = killAll (e.set i .none) is := rfl
def endC (io : List Bool) (xs : List VI.X) (e : Env) : CR → R VI.X
  | .ret d l outs =>
    if closed d l && outs.all closedS then .ok (.tmp d l) (backTo (killAll e (inSl io xs)) io xs outs)
    else .ok (.tmp d l) (backTo (killAll (shareAll e (noSl io xs)) (inSl io xs)) io xs outs)
  | .exc c => .exc c (killAll e (inSl io xs))
  | .stk => .stk
@[simp] theorem endC_ret (io : List Bool) (xs : List VI.X) (e : Env) (d : D) (l : Lv) (outs : List Slot) : endC io xs e (.ret d l outs) = if closed d l && outs.all closedS then .ok (.tmp d l) (backTo (killAll e (inSl io xs)) io xs outs)
    else .ok (.tmp d l) (backTo (killAll (shareAll e (noSl io xs)) (inSl io xs)) io xs outs) := rfl
def goC (cs : CS) (f : Str) (io : List Bool) (xs : List VI.X) (e : Env) : Option (List (D × Lv)) → R VI.X
  | none => .stk
  | some as => if (inSl io xs).Nodup ∧ (∀ i ∈ inSl io xs, i ∉ noSl io xs) then endC io xs e (cs.run f as) else .stk
@[simp] theorem goC_s (cs : CS) (f : Str) (io : List Bool) (xs : List VI.X) (e : Env) (as : List (D × Lv)) : goC cs f io xs e (some as) = if (inSl io xs).Nodup ∧ (∀ i ∈ inSl io xs, i ∉ noSl io xs) then endC io xs e (cs.run f as) else .stk := rfl
@[simp] theorem callX_def (cs : CS) (f : Str) (xs : List VI.X) (e : Env) : callX cs f xs e = goC cs f (cs.io f) xs e (argsOf e (cs.io f) xs) := by
  unfold callX goC
  cases argsOf e (cs.io f) xs with
  | none => rfl
  | some as => dsimp only; split <;> first | (cases cs.run f as <;> rfl) | rfl
@[simp] theorem callY_def (cs : CS) (f : Str) (xs : List VI.X) (e : Env) : callY cs f xs e = if hasTmp (cs.io f) xs then cutR e.length (callX cs f (spill (cs.io f) xs e.length).1 (e ++ (spill (cs.io f) xs e.length).2)) else callX cs f xs e := rfl
@[simp] theorem hasTmp_nil (ms : List Bool) : hasTmp ms [] = false := by unfold hasTmp; rfl
@[simp] theorem hasTmp_tmp (ms : List Bool) (d : D) (l : Lv) (xs : List VI.X) : hasTmp ms (.tmp d l :: xs) = (ms.headD false || hasTmp ms.tail xs) := by rw [hasTmp]
@[simp] theorem hasTmp_ali (ms : List Bool) (i : Nat) (xs : List VI.X) : hasTmp ms (.ali i :: xs) = hasTmp ms.tail xs := by rw [hasTmp]
@[simp] theorem spill_nil (ms : List Bool) (n : Nat) : spill ms [] n = ([], []) := by unfold spill; rfl
@[simp] theorem spill_tmp (ms : List Bool) (d : D) (l : Lv) (xs : List VI.X) (n : Nat) : spill ms (.tmp d l :: xs) n = if ms.headD false then (.ali n :: (spill ms.tail xs (n + 1)).1, .own d l :: (spill ms.tail xs (n + 1)).2) else (.tmp d l :: (spill ms.tail xs n).1, (spill ms.tail xs n).2) := by rw [spill]
@[simp] theorem spill_ali (ms : List Bool) (i : Nat) (xs : List VI.X) (n : Nat) : spill ms (.ali i :: xs) n = (.ali i :: (spill ms.tail xs n).1, (spill ms.tail xs n).2) := by rw [spill]
@[simp] theorem cutR_ok (n : Nat) (x : VI.X) (e : Env) : cutR n (.ok x e) = .ok x (e.take n) := rfl
@[simp] theorem cutR_exc (n : Nat) (c : Str) (e : Env) : cutR n (.exc c e) = .exc c (e.take n) := rfl
@[simp] theorem closedS_own (d : D) (l : Lv) : closedS (.own d l) = closed d l := rfl
@[simp] theorem endOf_ret (d : Fn) (v : D) (l : Lv) (e : Env) : endOf d (.ret v l e) = .ret v l (outsOf d.io d.np e) := rfl
@[simp] theorem endOf_nx (d : Fn) (e : Env) : endOf d (.nx e) = .ret .non .full (outsOf d.io d.np e) := rfl
@[simp] theorem outs_0 (io : List Bool) (e : Env) : outsOf io 0 e = [] := rfl
@[simp] theorem outs_f (io : List Bool) (n : Nat) (s : Slot) (e : Env) : outsOf (false :: io) (n + 1) (s :: e) = .none :: outsOf io n e := rfl
@[simp] theorem outs_t (io : List Bool) (n : Nat) (s : Slot) (e : Env) : outsOf (true :: io) (n + 1) (s :: e) = s :: outsOf io n e := rfl
@[simp] theorem startE_def (d : Fn) (as : List (D × Lv)) : startE d as = as.map (fun p => Slot.own p.1 p.2) ++ List.replicate (d.N.length - as.length) .none := rfl
@[simp] theorem closed_full (d : D) : closed d .full = true := by simp [closed]
@[simp] theorem closedS_none : closedS .none = true := rfl
end VI
namespace VI
namespace C
open PySem PySem.Spec PyProof.Rows L2
def f_is_whole : Fn where
  name := "is_whole"
  N := ["thing"]
  np := 1
  io := [false]
  body := bl [.ret (.and (.isin (.var 0) .int) (.not (.isin (.var 0) .bool)))]

def f_are_wholes : Fn where
  name := "are_wholes"
  N := ["thing", "part"]
  np := 1
  io := [false]
  body := bl [.ret (.b1 .all (.comp (.nm 1) [1] (.val (.var 0)) .no (.call "is_whole" (.cons (.var 1) .nil))))]

def f__law_purse : Fn where
  name := "_law_purse"
  N := ["_law_script", "_law_at", "_law_cell", "_law_far"]
  np := 2
  io := [false, false]
  body := bl [.asg (.nm 2) (.int 0),
    .ite (.cmp .lt (.var 1) (.b1 .len (.var 0))) (bl [.asg (.nm 2) (.sub (.var 0) (.var 1))]) (bl []),
    .asg (.nm 3) (.b1 .abs (.var 2)),
    .ret (.lst (.cons (.op .mul (.var 3) (.b1 .int (.cmp .ge (.var 3) (.op .pow (.int 10) (.int 18))))) (.cons (.op .mod (.op .add (.op .add (.op .mod (.var 2) (.int 2147483647)) (.op .mul (.int 7919) (.var 1))) (.int 17)) (.int 2147483647)) (.cons (.int 0) .nil))))]

def f__law_take : Fn where
  name := "_law_take"
  N := ["_law_purse_here", "_law_many", "_law_turn", "_law_one", "_law_other", "_law_digit"]
  np := 2
  io := [true, false]
  body := bl [.ite (.cmp .gt (.sub (.var 0) (.int 0)) (.int 0)) (bl [.asg (.nm 5) (.op .mod (.sub (.var 0) (.int 0)) (.var 1)),
    .setI 0 (.int 0) (.op .fdiv (.sub (.var 0) (.int 0)) (.var 1)),
    .ret (.mov 5)]) (bl []),
    .setI 0 (.int 2) (.op .add (.sub (.var 0) (.int 2)) (.int 1)),
    .asg (.nm 2) (.sub (.var 0) (.int 2)),
    .asg (.nm 3) (.op .mod (.op .pow (.op .add (.op .add (.sub (.var 0) (.int 1)) (.op .mul (.op .mul (.int 48271) (.var 2)) (.var 2))) (.int 1)) (.int 5)) (.int 2147483647)),
    .asg (.nm 4) (.op .mod (.op .pow (.op .add (.op .mul (.var 3) (.op .add (.op .mul (.int 2) (.var 2)) (.int 30011))) (.var 2)) (.int 3)) (.int 998244353)),
    .ret (.op .mod (.op .fdiv (.op .add (.op .mul (.var 3) (.int 998244353)) (.var 4)) (.int 1009)) (.var 1))]

def f__law_order : Fn where
  name := "_law_order"
  N := ["_law_purse_here", "_law_n", "_law_sort", "_law_left", "_law_at", "_law_some", "_law_goals", "_law_k", "_law_found", "_law_one", "_law_other", "_law_thing"]
  np := 2
  io := [true, false]
  body := bl [.asg (.nm 2) (.call "_law_take" (.cons (.var 0) (.cons (.int 4) .nil))),
    .asg (.nm 3) (.rngL (.cons (.int 1) (.cons (.op .add (.var 1) (.int 1)) .nil))),
    .ite (.cmp .lt (.var 2) (.int 2)) (bl [.asg (.nm 8) (.lst .nil),
    .for (.nm 7) (.rng (.cons (.var 1) .nil)) (bl [.app 8 (.pop 3 (.so (.call "_law_take" (.cons (.var 0) (.cons (.b1 .len (.var 3)) .nil)))))]),
    .ret (.b1 .tuple (.mov 8))]) (bl []),
    .ite (.cmp .eq (.var 2) (.int 2)) (bl [.for (.nm 7) (.rng (.cons (.call "_law_take" (.cons (.var 0) (.cons (.int 4) .nil))) .nil)) (bl [.asg (.nm 9) (.call "_law_take" (.cons (.var 0) (.cons (.var 1) .nil))),
    .asg (.nm 10) (.call "_law_take" (.cons (.var 0) (.cons (.var 1) .nil))),
    .set2 3 (.var 9) 3 (.var 10) (.sub (.var 3) (.var 10)) (.sub (.var 3) (.var 9))]),
    .ret (.b1 .tuple (.mov 3))]) (bl []),
    .asg (.nm 4) (.call "_law_take" (.cons (.var 0) (.cons (.var 1) .nil))),
    .asg (.nm 5) (.comp (.nm 7) [7] (.rng (.cons (.var 1) .nil)) .no (.pop 3 (.so (.op .mod (.op .add (.var 4) (.call "_law_take" (.cons (.var 0) (.cons (.var 1) .nil)))) (.b1 .len (.var 3)))))),
    .asg (.nm 6) .dnewK,
    .for (.nm 7) (.rng (.cons (.var 1) .nil)) (bl [.setI 6 (.sub (.var 5) (.var 7)) (.sub (.var 5) (.op .mod (.op .add (.var 7) (.int 1)) (.var 1)))]),
    .ret (.b1 .tuple (.comp (.nm 11) [11] (.rng (.cons (.int 1) (.cons (.op .add (.var 1) (.int 1)) .nil))) .no (.sub (.var 6) (.var 11))))]

def f__law_wholes_2 : Fn where
  name := "_law_wholes"
  N := ["_law_thing", "_law_one"]
  np := 1
  io := [false]
  body := bl [.ret (.b1 .all (.comp (.nm 1) [1] (.val (.var 0)) .no (.and (.isin (.var 1) .int) (.not (.isin (.var 1) .bool)))))]

def f_plain : Fn where
  name := "plain"
  N := ["n"]
  np := 1
  io := [false]
  body := bl [.ret (.rngT (.cons (.int 1) (.cons (.op .add (.var 0) (.int 1)) .nil)))]

def f_then : Fn where
  name := "then"
  N := ["one", "other", "goal"]
  np := 2
  io := [false, false]
  body := bl [.ite (.cmp .ne (.b1 .len (.var 0)) (.b1 .len (.var 1))) (bl [.bad]) (bl []),
    .ret (.b1 .tuple (.comp (.nm 2) [2] (.val (.mov 0)) .no (.sub (.var 1) (.op .sub (.var 2) (.int 1)))))]

def f_back : Fn where
  name := "back"
  N := ["order", "made", "k", "goal"]
  np := 1
  io := [false]
  body := bl [.asg (.nm 1) (.op .mul (.lst (.cons (.int 0) .nil)) (.b1 .len (.var 0))),
    .for (.two (.nm 2) (.nm 3)) (.enu (.mov 0)) (bl [.setI 1 (.op .sub (.var 3) (.int 1)) (.op .add (.mov 2) (.int 1))]),
    .ret (.b1 .tuple (.mov 1))]

def f__law_is_told : Fn where
  name := "_law_is_told"
  N := ["_law_n", "_law_found", "_law_part"]
  np := 2
  io := [false, false]
  body := bl [.ite (.not (.isin (.var 1) .list)) (bl [.ret (.bl false)]) (bl []),
    .for (.nm 2) (.val (.mov 1)) (bl [.ite (.or (.not (.isin (.var 2) .tuple)) (.or (.cmp .ne (.b1 .len (.var 2)) (.int 2)) (.or (.not (.call "_law_wholes" (.cons (.var 2) .nil))) (.not (.ch3 .le .lt .le (.int 1) (.sub (.var 2) (.int 0)) (.sub (.var 2) (.int 1)) (.var 0)))))) (bl [.ret (.bl false)]) (bl [])]),
    .ret (.bl true)]

def f_round_from : Fn where
  name := "round_from"
  N := ["order", "first", "found", "goal"]
  np := 2
  io := [false, false]
  body := bl [.asg (.nm 2) (.lst (.cons (.var 1) .nil)),
    .asg (.nm 3) (.sub (.var 0) (.op .sub (.var 1) (.int 1))),
    .whl (.cmp .ne (.var 3) (.var 1)) (bl [.app 2 (.var 3),
    .asg (.nm 3) (.sub (.var 0) (.op .sub (.var 3) (.int 1)))]),
    .ret (.mov 2)]

def f_rounds : Fn where
  name := "rounds"
  N := ["order", "found", "met", "k", "thing"]
  np := 1
  io := [false]
  body := bl [.asg (.nm 1) (.lst .nil),
    .asg (.nm 2) .dnewK,
    .for (.nm 3) (.rng (.cons (.int 1) (.cons (.op .add (.b1 .len (.var 0)) (.int 1)) .nil))) (bl [.ite (.cmp .notin (.var 3) (.var 2)) (bl [.app 1 (.call "round_from" (.cons (.var 0) (.cons (.var 3) .nil))),
    .for (.nm 4) (.val (.sub (.var 1) (.neg (.int 1)))) (bl [.setI 2 (.var 4) (.bl true)])]) (bl [])]),
    .ret (.mov 1)]

def f__law_rounds : Fn where
  name := "_law_rounds"
  N := ["_law_order_here", "_law_found", "_law_met", "_law_first", "_law_some"]
  np := 1
  io := [false]
  body := bl [.asg (.nm 1) (.lst .nil),
    .asg (.nm 2) (.lst .nil),
    .for (.nm 3) (.rng (.cons (.int 1) (.cons (.op .add (.b1 .len (.var 0)) (.int 1)) .nil))) (bl [.ite (.cmp .notin (.var 3) (.var 2)) (bl [.asg (.nm 4) (.lst (.cons (.var 3) .nil)),
    .whl (.cmp .ne (.sub (.var 0) (.op .sub (.sub (.var 4) (.neg (.int 1))) (.int 1))) (.var 3)) (bl [.app 4 (.sub (.var 0) (.op .sub (.sub (.var 4) (.neg (.int 1))) (.int 1)))]),
    .asg (.nm 2) (.op .add (.mov 2) (.var 4)),
    .app 1 (.mov 4)]) (bl [])]),
    .ret (.mov 1)]

def f_made : Fn where
  name := "made"
  N := ["n", "lists", "goals", "some", "k", "thing"]
  np := 2
  io := [false, false]
  body := bl [.asg (.nm 2) .dnewK,
    .for (.nm 3) (.val (.mov 1)) (bl [.ite (.cmp .eq (.b1 .len (.var 3)) (.int 0)) (bl [.bad]) (bl []),
    .for (.two (.nm 4) (.nm 5)) (.enu (.var 3)) (bl [.ite (.or (.not (.ch2 .le .le (.int 1) (.var 5) (.var 0))) (.cmp .isin (.var 5) (.var 2))) (bl [.bad]) (bl []),
    .setI 2 (.var 5) (.sub (.var 3) (.op .mod (.op .add (.var 4) (.int 1)) (.b1 .len (.var 3))))])]),
    .ret (.b1 .tuple (.comp (.nm 5) [5] (.rng (.cons (.int 1) (.cons (.op .add (.var 0) (.int 1)) .nil))) .no (.b3 .get (.var 2) (.var 5) (.var 5))))]

def f__law_number : Fn where
  name := "_law_number"
  N := ["_law_script", "_law_k", "_law_cell_here", "_law_one"]
  np := 2
  io := [false, false]
  body := bl [.asg (.nm 2) (.call "_law_cell" (.cons (.var 0) (.cons (.var 1) .nil))),
    .ite (.cmp .ge (.b1 .abs (.var 2)) (.op .pow (.int 10) (.int 18))) (bl [.ret (.b1 .abs (.var 2))]) (bl []),
    .asg (.nm 3) (.op .add (.op .mod (.var 2) (.op .pow (.int 10) (.int 18))) (.op .mul (.int 1442695040888963407) (.op .add (.op .add (.op .mul (.var 1) (.var 1)) (.var 1)) (.int 1)))),
    .asg (.nm 3) (.op .mod (.op .mul (.var 3) (.int 6364136223846793005)) (.op .pow (.int 10) (.int 37))),
    .ret (.op .fdiv (.op .pow (.var 3) (.int 4)) (.op .pow (.int 10) (.int 20)))]

def f__law_row : Fn where
  name := "_law_row"
  N := ["_law_purse_here", "_law_n", "_law_most", "_law_found", "_law_near", "_law_k", "_law_one", "_law_other"]
  np := 3
  io := [true, false, false]
  body := bl [.asg (.nm 3) (.lst .nil),
    .ite (.cmp .lt (.var 1) (.int 2)) (bl [.ret (.mov 3)]) (bl []),
    .asg (.nm 4) (.sub (.lst (.cons (.var 1) (.cons (.var 1) (.cons (.b2 .min (.var 1) (.int 3)) .nil)))) (.call "_law_take" (.cons (.var 0) (.cons (.int 3) .nil)))),
    .for (.nm 5) (.rng (.cons (.call "_law_take" (.cons (.var 0) (.cons (.op .add (.var 2) (.int 1)) .nil))) .nil)) (bl [.asg (.nm 6) (.op .add (.int 1) (.call "_law_take" (.cons (.var 0) (.cons (.var 4) .nil)))),
    .asg (.nm 7) (.op .add (.int 1) (.op .mod (.op .add (.var 6) (.call "_law_take" (.cons (.var 0) (.cons (.op .sub (.var 1) (.int 1)) .nil)))) (.var 1))),
    .app 3 (.tup (.cons (.b2 .min (.var 6) (.var 7)) (.cons (.b2 .max (.var 6) (.var 7)) .nil)))]),
    .ret (.mov 3)]

def f_led_thing : Fn where
  name := "led_thing"
  N := ["exchange", "thing"]
  np := 2
  io := [false, false]
  body := bl [.ite (.cmp .eq (.var 1) (.sub (.var 0) (.int 0))) (bl [.ret (.sub (.var 0) (.int 1))]) (bl []),
    .ite (.cmp .eq (.var 1) (.sub (.var 0) (.int 1))) (bl [.ret (.sub (.var 0) (.int 0))]) (bl []),
    .ret (.mov 1)]

def f_led : Fn where
  name := "led"
  N := ["n", "row", "goals", "exchange", "goal"]
  np := 2
  io := [false, false]
  body := bl [.asg (.nm 2) (.call "plain" (.cons (.var 0) .nil)),
    .for (.nm 3) (.val (.mov 1)) (bl [.asg (.nm 2) (.b1 .tuple (.comp (.nm 4) [4] (.val (.mov 2)) .no (.call "led_thing" (.cons (.var 3) (.cons (.var 4) .nil)))))]),
    .ret (.mov 2)]

def f__law_led : Fn where
  name := "_law_led"
  N := ["_law_n", "_law_row_here", "_law_found", "_law_thing", "_law_goal", "_law_a", "_law_b"]
  np := 2
  io := [false, false]
  body := bl [.asg (.nm 2) (.lst .nil),
    .for (.nm 3) (.rng (.cons (.int 1) (.cons (.op .add (.var 0) (.int 1)) .nil))) (bl [.asg (.nm 4) (.mov 3),
    .for (.two (.nm 5) (.nm 6)) (.val (.var 1)) (bl [.asg (.nm 4) (.b3 .get (.disp (.cons (.var 5) (.cons (.var 6) (.cons (.var 6) (.cons (.var 5) .nil))))) (.var 4) (.var 4))]),
    .app 2 (.mov 4)]),
    .ret (.b1 .tuple (.mov 2))]

def f__law_led_2 : Fn where
  name := "_law_led"
  N := ["_law_n", "_law_row", "_law_found", "_law_thing", "_law_goal", "_law_a", "_law_b"]
  np := 2
  io := [false, false]
  body := bl [.asg (.nm 2) (.lst .nil),
    .for (.nm 3) (.rng (.cons (.int 1) (.cons (.op .add (.var 0) (.int 1)) .nil))) (bl [.asg (.nm 4) (.mov 3),
    .for (.two (.nm 5) (.nm 6)) (.val (.var 1)) (bl [.asg (.nm 4) (.b3 .get (.disp (.cons (.var 5) (.cons (.var 6) (.cons (.var 6) (.cons (.var 5) .nil))))) (.var 4) (.var 4))]),
    .app 2 (.mov 4)]),
    .ret (.b1 .tuple (.mov 2))]

def f_joined_lists : Fn where
  name := "joined_lists"
  N := ["some", "exchange", "here", "rest", "part"]
  np := 2
  io := [true, false]
  body := bl [.asg (.nm 2) (.lst .nil),
    .asg (.nm 3) (.lst .nil),
    .for (.nm 4) (.val (.mov 0)) (bl [.ite (.or (.cmp .isin (.sub (.var 1) (.int 0)) (.var 4)) (.cmp .isin (.sub (.var 1) (.int 1)) (.var 4))) (bl [.ext 2 (.mov 4)]) (bl [.app 3 (.mov 4)])]),
    .ret (.op .add (.mov 3) (.lst (.cons (.b1 .sorted (.mov 2)) .nil)))]

def f_parts : Fn where
  name := "parts"
  N := ["n", "row", "found", "exchange", "thing"]
  np := 2
  io := [false, false]
  body := bl [.asg (.nm 2) (.comp (.nm 4) [4] (.rng (.cons (.int 1) (.cons (.op .add (.var 0) (.int 1)) .nil))) .no (.lst (.cons (.mov 4) .nil))),
    .for (.nm 3) (.val (.mov 1)) (bl [.asg (.nm 2) (.call "joined_lists" (.cons (.var 2) (.cons (.var 3) .nil)))]),
    .ret (.b1 .sorted (.mov 2))]

def f_is_least : Fn where
  name := "is_least"
  N := ["n", "row"]
  np := 2
  io := [false, false]
  body := bl [.ret (.cmp .eq (.b1 .len (.var 1)) (.op .sub (.var 0) (.b1 .len (.call "rounds" (.cons (.call "led" (.cons (.var 0) (.cons (.var 1) .nil))) .nil)))))]

def f__law_least_row : Fn where
  name := "_law_least_row"
  N := ["_law_purse_here", "_law_order_here", "_law_row_here", "_law_goals", "_law_rounds_left", "_law_some", "_law_one", "_law_other", "_law_a", "_law_b", "_law_goal"]
  np := 2
  io := [true, false]
  body := bl [.asg (.nm 2) (.lst .nil),
    .asg (.nm 3) (.b1 .list (.mov 1)),
    .asg (.nm 4) (.comp (.nm 5) [5] (.val (.call "_law_rounds" (.cons (.b1 .tuple (.var 3)) .nil))) (.so (.cmp .gt (.b1 .len (.var 5)) (.int 1))) (.mov 5)),
    .whl (.cmp .gt (.b1 .len (.var 4)) (.int 0)) (bl [.asg (.nm 5) (.sub (.var 4) (.call "_law_take" (.cons (.var 0) (.cons (.b1 .len (.var 4)) .nil)))),
    .asg (.nm 6) (.call "_law_take" (.cons (.var 0) (.cons (.b1 .len (.var 5)) .nil))),
    .asg (.nm 7) (.op .mod (.op .add (.op .add (.var 6) (.int 1)) (.call "_law_take" (.cons (.var 0) (.cons (.op .sub (.b1 .len (.var 5)) (.int 1)) .nil)))) (.b1 .len (.var 5))),
    .asg (.nm 8) (.b2 .min (.sub (.var 5) (.var 6)) (.sub (.var 5) (.var 7))),
    .asg (.nm 9) (.b2 .max (.sub (.var 5) (.var 6)) (.sub (.var 5) (.var 7))),
    .asg (.nm 3) (.comp (.nm 10) [10] (.val (.mov 3)) .no (.b3 .get (.disp (.cons (.var 8) (.cons (.var 9) (.cons (.var 9) (.cons (.var 8) .nil))))) (.var 10) (.var 10))),
    .ins 2 (.int 0) (.tup (.cons (.mov 8) (.cons (.mov 9) .nil))),
    .asg (.nm 4) (.comp (.nm 5) [5] (.val (.call "_law_rounds" (.cons (.b1 .tuple (.var 3)) .nil))) (.so (.cmp .gt (.b1 .len (.var 5)) (.int 1))) (.mov 5))]),
    .ret (.mov 2)]

def f__law_asked : Fn where
  name := "_law_asked"
  N := ["_law_way", "_law_thing", "_law_kept", "_law_e"]
  np := 2
  io := [false, false]
  body := bl [.asg (.nm 2) (.b1 .list (.var 1)),
    .bad,
    .ret (.ite (.cmp .eq (.var 1) (.var 2)) (.str "told") (.str "changed"))]

def f_star : Fn where
  name := "star"
  N := ["order", "found", "some", "thing"]
  np := 1
  io := [false]
  body := bl [.asg (.nm 1) (.lst .nil),
    .for (.nm 2) (.val (.call "rounds" (.cons (.var 0) .nil))) (bl [.ext 1 (.comp (.nm 3) [3] (.val (.slc (.var 2) (.so (.int 1)) .no)) .no (.tup (.cons (.sub (.var 2) (.int 0)) (.cons (.mov 3) .nil))))]),
    .ret (.mov 1)]

def f_home : Fn where
  name := "home"
  N := ["order", "goals", "found", "greater", "lesser", "goal"]
  np := 1
  io := [false]
  body := bl [.asg (.nm 1) (.b1 .list (.var 0)),
    .asg (.nm 2) (.lst .nil),
    .for (.nm 3) (.rng (.cons (.b1 .len (.var 0)) (.cons (.int 1) (.cons (.neg (.int 1)) .nil)))) (bl [.asg (.nm 4) (.sub (.var 1) (.op .sub (.var 3) (.int 1))),
    .ite (.cmp .ne (.var 4) (.var 3)) (bl [.app 2 (.tup (.cons (.var 4) (.cons (.var 3) .nil))),
    .asg (.nm 1) (.comp (.nm 5) [5] (.val (.mov 1)) .no (.call "led_thing" (.cons (.tup (.cons (.var 4) (.cons (.var 3) .nil))) (.cons (.var 5) .nil))))]) (bl [])]),
    .ret (.b1 .rev (.mov 2))]

def f_carried : Fn where
  name := "carried"
  N := ["exchange", "by", "one", "other"]
  np := 2
  io := [false, false]
  body := bl [.asg (.nm 2) (.call "led_thing" (.cons (.var 1) (.cons (.sub (.var 0) (.int 0)) .nil))),
    .asg (.nm 3) (.call "led_thing" (.cons (.var 1) (.cons (.sub (.var 0) (.int 1)) .nil))),
    .ret (.tup (.cons (.b2 .min (.var 2) (.var 3)) (.cons (.b2 .max (.var 2) (.var 3)) .nil)))]

def f_pair_moved : Fn where
  name := "pair_moved"
  N := ["one", "other", "way"]
  np := 3
  io := [false, false, false]
  body := bl [.ite (.cmp .eq (.var 2) (.gstr "FORTH" "forth")) (bl [.ret (.lst (.cons (.var 1) (.cons (.call "carried" (.cons (.var 0) (.cons (.var 1) .nil))) .nil)))]) (bl []),
    .ret (.lst (.cons (.call "carried" (.cons (.var 1) (.cons (.var 0) .nil))) (.cons (.var 0) .nil)))]

def f_moved : Fn where
  name := "moved"
  N := ["row", "k", "way"]
  np := 3
  io := [false, false, false]
  body := bl [.ite (.or (.not (.ch2 .le .lt (.int 1) (.var 1) (.b1 .len (.var 0)))) (.cmp .notin (.var 2) (.tup (.cons (.gstr "FORTH" "forth") (.cons (.gstr "BACK" "back") .nil))))) (bl [.bad]) (bl []),
    .ret (.op .add (.op .add (.slc (.var 0) .no (.so (.op .sub (.var 1) (.int 1)))) (.call "pair_moved" (.cons (.sub (.var 0) (.op .sub (.var 1) (.int 1))) (.cons (.sub (.var 0) (.var 1)) (.cons (.var 2) .nil))))) (.slc (.var 0) (.so (.op .add (.var 1) (.int 1))) .no))]

def f__law_moved : Fn where
  name := "_law_moved"
  N := ["_law_row_here", "_law_k", "_law_way", "_law_one", "_law_other", "_law_a", "_law_b", "_law_c", "_law_d"]
  np := 3
  io := [false, false, false]
  body := bl [.asg (.two (.two (.nm 5) (.nm 6)) (.two (.nm 7) (.nm 8))) (.tup (.cons (.sub (.var 0) (.op .sub (.var 1) (.int 1))) (.cons (.sub (.var 0) (.var 1)) .nil))),
    .ite (.cmp .eq (.var 2) (.str "forth")) (bl [.asg (.nm 3) (.b3 .get (.disp (.cons (.var 7) (.cons (.var 8) (.cons (.var 8) (.cons (.var 7) .nil))))) (.var 5) (.var 5)),
    .asg (.nm 4) (.b3 .get (.disp (.cons (.var 7) (.cons (.var 8) (.cons (.var 8) (.cons (.var 7) .nil))))) (.var 6) (.var 6)),
    .ret (.op .add (.op .add (.slc (.var 0) .no (.so (.op .sub (.var 1) (.int 1)))) (.lst (.cons (.tup (.cons (.mov 7) (.cons (.mov 8) .nil))) (.cons (.tup (.cons (.b2 .min (.var 3) (.var 4)) (.cons (.b2 .max (.var 3) (.var 4)) .nil))) .nil)))) (.slc (.var 0) (.so (.op .add (.var 1) (.int 1))) .no))]) (bl []),
    .asg (.nm 3) (.b3 .get (.disp (.cons (.var 5) (.cons (.var 6) (.cons (.var 6) (.cons (.var 5) .nil))))) (.var 7) (.var 7)),
    .asg (.nm 4) (.b3 .get (.disp (.cons (.var 5) (.cons (.var 6) (.cons (.var 6) (.cons (.var 5) .nil))))) (.var 8) (.var 8)),
    .ret (.op .add (.op .add (.slc (.var 0) .no (.so (.op .sub (.var 1) (.int 1)))) (.lst (.cons (.tup (.cons (.b2 .min (.var 3) (.var 4)) (.cons (.b2 .max (.var 3) (.var 4)) .nil))) (.cons (.tup (.cons (.mov 5) (.cons (.mov 6) .nil))) .nil)))) (.slc (.var 0) (.so (.op .add (.var 1) (.int 1))) .no))]

def f__law_cell : Fn where
  name := "_law_cell"
  N := ["_law_script", "_law_k"]
  np := 2
  io := [false, false]
  body := bl [.ite (.cmp .lt (.var 1) (.b1 .len (.var 0))) (bl [.ret (.sub (.var 0) (.var 1))]) (bl []),
    .ret (.int 0)]

def f__law_whole : Fn where
  name := "_law_whole"
  N := ["_law_thing"]
  np := 1
  io := [false]
  body := bl [.ret (.and (.isin (.var 0) .int) (.not (.isin (.var 0) .bool)))]

def f__law_size : Fn where
  name := "_law_size"
  N := ["_law_number_here"]
  np := 1
  io := [false]
  body := bl [.ret (.sub (.lst (.cons (.int 1) (.cons (.int 2) (.cons (.int 3) (.cons (.int 4) (.cons (.int 5) (.cons (.int 6) (.cons (.int 7) (.cons (.int 8) (.cons (.int 9) (.cons (.int 10) (.cons (.int 11) (.cons (.int 12) (.cons (.int 12) (.cons (.int 11) (.cons (.int 10) (.cons (.int 9) .nil))))))))))))))))) (.op .mod (.var 0) (.int 16)))]

def f_parks : Fn where
  name := "parks"
  N := ["thing", "place", "number"]
  np := 1
  io := [false]
  body := bl [.ite (.or (.not (.isin (.var 0) .list)) (.or (.cmp .ge (.b1 .len (.var 0)) (.gint "MOST" 12)) (.not (.call "are_wholes" (.cons (.var 0) .nil))))) (bl [.ret (.bl false)]) (bl []),
    .ret (.b1 .all (.comp (.two (.nm 1) (.nm 2)) [1, 2] (.enu (.b1 .sorted (.var 0))) .no (.ch2 .le .le (.int 1) (.var 2) (.op .add (.var 1) (.int 1)))))]

def f__law_parks : Fn where
  name := "_law_parks"
  N := ["_law_thing", "_law_k", "_law_one"]
  np := 1
  io := [false]
  body := bl [.ite (.or (.not (.isin (.var 0) .list)) (.or (.cmp .gt (.b1 .len (.var 0)) (.int 11)) (.not (.b1 .all (.comp (.nm 2) [2] (.val (.var 0)) .no (.call "_law_whole" (.cons (.var 2) .nil))))))) (bl [.ret (.bl false)]) (bl []),
    .ite (.not (.b1 .all (.comp (.nm 2) [2] (.val (.var 0)) .no (.ch2 .le .le (.int 1) (.var 2) (.b1 .len (.var 0)))))) (bl [.ret (.bl false)]) (bl []),
    .ret (.b1 .all (.comp (.nm 1) [1] (.rng (.cons (.int 1) (.cons (.op .add (.b1 .len (.var 0)) (.int 1)) .nil))) .no (.cmp .ge (.b1 .len (.comp (.nm 2) [2] (.val (.var 0)) (.so (.cmp .le (.var 2) (.var 1))) (.mov 2))) (.var 1))))]

end C
end VI
namespace VI
open PySem PySem.Spec PyProof.Rows L2
/-! ### a def of the table and its run -/
/-- what a run looks at: not the local names -/
def Fn.core (d : Fn) : Nat × List Bool × Ss × Nat := (d.np, d.io, d.body, d.N.length)
def Has (fs : List Fn) (d : Fn) : Prop := (fs.find? (fun e => e.name == d.name)).map Fn.core = some d.core
theorem Has.get {fs : List Fn} {d : Fn} (h : Has fs d) : ∃ d', fs.find? (fun e => e.name == d.name) = some d' ∧ d'.np = d.np ∧ d'.io = d.io ∧ d'.body = d.body ∧ d'.N.length = d.N.length := by
  unfold Has at h
  cases q : fs.find? (fun e => e.name == d.name) with
  | none => rw [q] at h; cases h
  | some d' =>
    rw [q] at h
    have h : Fn.core d' = Fn.core d := by simpa using h
    unfold Fn.core at h
    simp only [Prod.mk.injEq] at h
    exact ⟨d', rfl, h.1, h.2.1, h.2.2.1, h.2.2.2⟩
theorem Has.io {fs : List Fn} {d : Fn} (h : Has fs d) (k : Nat) : (csOf fs k).io d.name = d.io := by
  obtain ⟨d', h1, _, h3, _⟩ := h.get
  show (match fs.find? (fun e => e.name == d.name) with | some d => d.io | none => []) = _
  rw [h1]; exact h3
theorem Has.run {fs : List Fn} {d : Fn} (h : Has fs d) (k : Nat) {as : List (D × Lv)} (hl : as.length = d.np) (hn : d.np ≤ d.N.length) : (csOf fs (k + 1)).run d.name as = endOf d (execs (csOf fs k) d.body (startE d as)) := by
  obtain ⟨d', h1, h2, h3, h4, h5⟩ := h.get
  show (match fs.find? (fun e => e.name == d.name) with
    | some d => if as.length = d.np ∧ d.np ≤ d.N.length then endOf d (execs ⟨ioOf fs, runF fs k⟩ d.body (startE d as)) else .stk
    | none => .stk) = _
  rw [h1]
  dsimp only
  rw [if_pos ⟨by rw [h2]; exact hl, by rw [h2, h5]; exact hn⟩, h4]
  have e1 : startE d' as = startE d as := by unfold startE; rw [h5]
  have e2 : ∀ r, endOf d' r = endOf d r := fun r => by unfold endOf; rw [h2, h3]
  rw [e1, e2]; rfl
theorem callX_eq (cs : CS) (f : Str) (xs : List VI.X) (e : Env) : callX cs f xs e = (match argsOf e (cs.io f) xs with
  | none => .stk
  | some as =>
    if (inSl (cs.io f) xs).Nodup ∧ (∀ i ∈ inSl (cs.io f) xs, i ∉ noSl (cs.io f) xs) then
      match cs.run f as with
      | .ret d l outs =>
        if closed d l && outs.all closedS then .ok (.tmp d l) (backTo (killAll e (inSl (cs.io f) xs)) (cs.io f) xs outs)
        else .ok (.tmp d l) (backTo (killAll (shareAll e (noSl (cs.io f) xs)) (inSl (cs.io f) xs)) (cs.io f) xs outs)
      | .exc c => .exc c (killAll e (inSl (cs.io f) xs))
      | .stk => .stk
    else .stk) := rfl
/-! ### loops -/
theorem forL_nil (f : D × Lv → Env → Fl) (e : Env) : forL f [] e = .nx e := rfl
theorem forL_cons (f : D × Lv → Env → Fl) (p : D × Lv) (ps : List (D × Lv)) (e : Env) : forL f (p :: ps) e = (match f p e with
    | .nx e1 => forL f ps e1
    | .brk e1 => .nx e1
    | r => r) := rfl
/-- a loop that goes through: its state told by the part that is done -/
theorem forL_inv {β : Type} {f : D × Lv → Env → Fl} (g : β → D × Lv) (I : List β → Env → Prop) (all : List β) : ∀ (ps done : List β) (e : Env), done ++ ps = all → I done e → (∀ done p rest e, done ++ p :: rest = all → I done e → ∃ e', f (g p) e = .nx e' ∧ I (done ++ [p]) e') →
    ∃ e', forL f (ps.map g) e = .nx e' ∧ I all e'
  | [], done, e, ha, h, _ => ⟨e, rfl, by rw [← ha]; simpa using h⟩
  | p :: ps, done, e, ha, h, s => by
    obtain ⟨e1, h1, h2⟩ := s done p ps e ha h
    obtain ⟨e2, h3, h4⟩ := forL_inv g I all ps (done ++ [p]) e1 (by simpa using ha) h2 s
    refine ⟨e2, ?_, h4⟩
    rw [List.map_cons, forL_cons, h1]; exact h3
/-- the same, ahead of what comes behind it -/
theorem forL_end {β : Type} {f : D × Lv → Env → Fl} (g : β → D × Lv) (I : List β → Env → Prop) (all : List β) {e : Env} {K : Env → Fl} {d : Fn} {c : CR} (h0 : I [] e) (hs : ∀ done p rest e, done ++ p :: rest = all → I done e → ∃ e', f (g p) e = .nx e' ∧ I (done ++ [p]) e')
    (hk : ∀ e', I all e' → endOf d (K e') = c) : endOf d (@seqK (forL f (all.map g) e) ⟨K⟩) = c := by
  obtain ⟨e', h1, h2⟩ := forL_inv (f := f) g I all all [] e (by simp) h0 hs
  rw [h1]
  exact hk e' h2
theorem forL_seq {β : Type} {f : D × Lv → Env → Fl} (g : β → D × Lv) (I : List β → Env → Prop) (all : List β) {e : Env} {K : Env → Fl} {r : Fl → Prop} (h0 : I [] e) (hs : ∀ done p rest e, done ++ p :: rest = all → I done e → ∃ e', f (g p) e = .nx e' ∧ I (done ++ [p]) e')
    (hk : ∀ e', I all e' → r (K e')) : r (@seqK (forL f (all.map g) e) ⟨K⟩) := by
  obtain ⟨e', h1, h2⟩ := forL_inv (f := f) g I all all [] e (by simp) h0 hs
  rw [h1]
  exact hk e' h2
theorem forL_nx {β : Type} {f : D × Lv → Env → Fl} (g : β → D × Lv) (I : List β → Env → Prop) (all : List β) {e : Env} {K : Env → Fl} {J : Env → Prop} (h0 : I [] e) (hs : ∀ done p rest e, done ++ p :: rest = all → I done e → ∃ e', f (g p) e = .nx e' ∧ I (done ++ [p]) e')
    (hk : ∀ e', I all e' → ∃ e2, K e' = .nx e2 ∧ J e2) : ∃ e2, @seqK (forL f (all.map g) e) ⟨K⟩ = .nx e2 ∧ J e2 :=
  forL_seq g I all (r := fun x => ∃ e2, x = .nx e2 ∧ J e2) h0 hs hk
/-- .. its state reckoned step by step; J stays -/
theorem forL_fold {β σ : Type} {f : D × Lv → Env → Fl} (g : β → D × Lv) (st : σ → Env) (step : σ → β → σ) (J : σ → Prop) : ∀ (xs : List β) (s : σ), J s → (∀ s x, J s → x ∈ xs → f (g x) (st s) = .nx (st (step s x)) ∧ J (step s x)) → forL f (xs.map g) (st s) = .nx (st (xs.foldl step s))
  | [], s, hj, _ => rfl
  | x :: xs, s, hj, h => by
    obtain ⟨h1, h2⟩ := h s x hj List.mem_cons_self
    rw [List.map_cons, forL_cons, h1]
    exact forL_fold g st step J xs (step s x) h2 fun s y hj hy => h s y hj (List.mem_cons_of_mem _ hy)
theorem fold_fst {α β γ : Type} (A : α → β → α) (B : α × γ → β → γ) : ∀ (xs : List β) (s : α × γ), (xs.foldl (fun s p => (A s.1 p, B s p)) s).1 = xs.foldl A s.1
  | [], _ => rfl
  | x :: xs, s => fold_fst A B xs (A s.1 x, B s x)
theorem fold_inv {β σ : Type} (step : σ → β → σ) (J : σ → Prop) : ∀ (xs : List β) (s : σ), J s → (∀ s x, J s → x ∈ xs → J (step s x)) → J (xs.foldl step s)
  | [], s, hj, _ => hj
  | x :: xs, s, hj, h => fold_inv step J xs (step s x) (h s x hj List.mem_cons_self) fun s y hj hy => h s y hj (List.mem_cons_of_mem _ hy)
/-- a comprehension that leaves the slots -/
theorem compL_map {β : Type} {f : D × Lv → Env → R (Option (D × Lv))} (g : β → D × Lv) (h : β → D × Lv) (e : Env) : ∀ (xs : List β) (n : Nat), n + xs.length ≤ sizeLine → (∀ x ∈ xs, f (g x) e = .ok (some (h x)) e) → compL f n (xs.map g) e = .ok (xs.map h) e
  | [], n, _, _ => rfl
  | x :: xs, n, hl, hs => by
    have h1 := hs x List.mem_cons_self
    have h2 := compL_map g h e xs (n + 1) (by simp at hl; omega) fun y hy => hs y (List.mem_cons_of_mem _ hy)
    show (f (g x) e).bind _ = _
    rw [h1]
    show (if n < sizeLine then (compL f (n + 1) (xs.map g) e).bind fun rs e2 => R.ok (h x :: rs) e2 else .stk) = _
    rw [if_pos (by simp at hl; omega), h2]; rfl
theorem compL_filter {β : Type} {f : D × Lv → Env → R (Option (D × Lv))} (g : β → D × Lv) (c : β → Bool) (h : β → D × Lv) (e : Env) : ∀ (xs : List β) (n : Nat), n + xs.length ≤ sizeLine → (∀ x ∈ xs, f (g x) e = .ok (if c x then some (h x) else none) e) → compL f n (xs.map g) e = .ok ((xs.filter c).map h) e
  | [], n, _, _ => rfl
  | x :: xs, n, hl, hs => by
    have h1 := hs x List.mem_cons_self
    have h2 := fun m (hm : m + xs.length ≤ sizeLine) => compL_filter g c h e xs m hm fun y hy => hs y (List.mem_cons_of_mem _ hy)
    simp at hl
    show (f (g x) e).bind _ = _
    rw [h1]
    cases hc : c x with
    | true =>
      show (if n < sizeLine then (compL f (n + 1) (xs.map g) e).bind fun rs e2 => R.ok (h x :: rs) e2 else .stk) = _
      rw [if_pos (by omega), h2 (n + 1) (by omega), List.filter_cons_of_pos (by exact hc)]; rfl
    | false =>
      show compL f n (xs.map g) e = _
      rw [h2 n (by omega), List.filter_cons_of_neg (by rw [hc]; simp)]
@[simp] theorem ev_comp (cs : CS) (g : G) (own : List Nat) (it : VI.It) (c : Eo) (elt : E) (e : Env) : evalE cs (.comp g own it c elt) e = (evalI cs it e).bind fun p e1 =>
    (compL (compF cs g own c elt) 0 p.1 (wipeE e1 own)).bind fun rs e7 => .ok (mkL (rs.map (·.1)) (lall rs)) (restore (unwipe e1 e7 own) p.2) := by rw [evalE] <;> rfl
@[simp] theorem evi_val (cs : CS) (a : E) (e : Env) : evalI cs (.val a) e = (evalE cs a e).bind fun x e1 => (use e1 x).bind fun p e2 => ofO ((walkD p.1 p.2).map fun ps => (ps, none)) e2 := by rw [evalI] <;> rfl
@[simp] theorem evi_rng (cs : CS) (es : Es) (e : Env) : evalI cs (.rng es) e = (evalEs cs es e).bind fun xs e1 => ofO (((derefs e1 xs).bind rangeOf).map fun ds => (ds.map fun d => (d, .full), none)) e1 := by rw [evalI] <;> rfl
@[simp] theorem evi_enu (cs : CS) (a : E) (e : Env) : evalI cs (.enu a) e = (evalE cs a e).bind fun x e1 => (use e1 x).bind fun p e2 => ofO ((walkS p.1 p.2).map fun ps => (enumP 0 ps, none)) e2 := by rw [evalI] <;> rfl
@[simp] theorem ex_for (cs : CS) (g : G) (it : VI.It) (b : Ss) (e : Env) : exec cs (.for g it b) e = (evalI cs it e).fl fun p e1 => (forL (forF cs g b) p.1 e1).restore p.2 := by rw [exec] <;> rfl
@[simp] theorem wipe_nil' (e : Env) : wipeE e [] = e := rfl
@[simp] theorem wipe_cons' (e : Env) (i : Nat) (is : List Nat) : wipeE e (i :: is) = (wipeE e is).set i .none := rfl
@[simp] theorem unwipe_nil' (o e : Env) : unwipe o e [] = e := rfl
@[simp] theorem unwipe_cons' (o e : Env) (i : Nat) (is : List Nat) : unwipe o e (i :: is) = (unwipe o e is).set i (match gt o i with
    | .own d _ => if imm d then .own d .full else .none
    | .none => .none) := rfl
@[simp] theorem restore_none' (e : Env) : VI.restore e none = e := rfl
@[simp] theorem frestore_none' (r : Fl) : r.restore none = r := by cases r <;> rfl
@[simp] theorem testO_no (cs : CS) (e : Env) : testO cs .no e = .ok true e := by rw [testO]
@[simp] theorem testO_so (cs : CS) (a : E) (e : Env) : testO cs (.so a) e = tst (evalE cs a e) := by rw [testO]
@[simp] theorem noExc_ok {α : Type} (x : α) (e : Env) : noExc (.ok x e) = .ok x e := rfl
@[simp] theorem lall_full {β : Type} (h : β → D) (xs : List β) : lall (xs.map fun x => (h x, Lv.full)) = .full := by
  induction xs with
  | nil => rfl
  | cons x xs ih => rw [List.map_cons, lall_cons, ih]; rfl
theorem immL_map {β : Type} {h : β → D} (hi : ∀ x, imm (h x) = true) (xs : List β) : immL (xs.map h) = true := by
  induction xs with
  | nil => rfl
  | cons x xs ih => rw [List.map_cons, immL_cons, hi, ih]; rfl
@[simp] theorem bindG_two' (a b : G) (d1 d2 : D) (l : Lv) (e : Env) : bindG (.two a b) (.tup [d1, d2]) l e = (bindG a d1 l.pred e).bind fun e1 => bindG b d2 l.pred e1 := by simp only [bindG]
theorem enumP_ints : ∀ (xs : List Int) (k : Nat), enumP k (xs.map fun x => (D.int x, Lv.full)) = (xs.zipIdx k).map fun p => (.tup [.int p.2, .int p.1], Lv.full)
  | [], _ => rfl
  | x :: xs, k => by
    show (D.tup [.int k, .int x], Lv.full) :: enumP (k + 1) (xs.map fun x => (D.int x, Lv.full)) = _
    rw [enumP_ints xs (k + 1)]; rfl
@[simp] theorem enumP_ints' (xs : List Int) (k : Nat) : enumP k (xs.map ((fun d => (d, Lv.full)) ∘ D.int)) = (xs.zipIdx k).map fun p => (.tup [.int p.2, .int p.1], Lv.full) := enumP_ints xs k
theorem rep_one (z : Int) (n : Nat) : (List.replicate n [D.int z]).flatten = (List.replicate n z).map D.int := by
  induction n with
  | zero => rfl
  | succ n ih => rw [List.replicate_succ, List.flatten_cons, ih, List.replicate_succ]; rfl
theorem opLM_one (e : Env) (z : Int) (n : Nat) (hn : n ≤ 1000) : opLM (.tmp (.lst [.int z]) .full) e [.int z] n = .ok (.tmp (.lst ((List.replicate n z).map D.int)) .full) e := by
  unfold opLM
  rw [if_pos ⟨rfl, rfl, by omega, by omega, by rw [sizeLine_eq]; simp; omega⟩, Int.toNat_natCast, rep_one]
  rfl
@[simp] theorem boolsD_map {β : Type} (f : β → Bool) (xs : List β) : boolsD (xs.map fun x => D.bl (f x)) = some (xs.map f) := by
  have := boolsD_bls (xs.map f)
  rwa [List.map_map] at this
@[simp] theorem intsD_map {β : Type} (f : β → Int) (xs : List β) : intsD (xs.map fun x => D.int (f x)) = some (xs.map f) := by
  have := intsD_ints (xs.map f)
  rwa [List.map_map] at this
@[simp] theorem isTy_ii (i : Int) : isTy .int (.int i) = some true := rfl
@[simp] theorem isTy_bi (i : Int) : isTy .bool (.int i) = some false := rfl
@[simp] theorem isTy_tt (ds : List D) : isTy .tuple (.tup ds) = some true := rfl
@[simp] theorem isTy_ll (ds : List D) : isTy .list (.lst ds) = some true := rfl
@[simp] theorem isTy_il (ds : List D) : isTy .int (.lst ds) = some false := rfl
@[simp] theorem isTy_it (ds : List D) : isTy .int (.tup ds) = some false := rfl
/-! dicts -/
@[simp] theorem b3R_k (kvs : List (Key × D)) : b3R .get (some (.dK kvs)) = true := rfl
def getO (e : Env) (d : D) : Option D → R VI.X
  | some c => if imm c then .ok (im c) e else .stk
  | none => .ok (im d) e
@[simp] theorem getO_s (e : Env) (d c : D) : getO e d (some c) = if imm c then .ok (im c) e else .stk := rfl
@[simp] theorem getO_n (e : Env) (d : D) : getO e d none = .ok (im d) e := rfl
def b3D (e : Env) : Option D → Option Key → Option D → R VI.X
  | some (.dK kvs), some k, some d => if imm d then getO e d (dlookK k kvs) else .stk
  | _, _, _ => .stk
@[simp] theorem b3X_def (x y z : VI.X) (e : Env) : b3X .get x y z e = b3D e (deref e x) ((deref e y).bind key1) (deref e z) := by
  unfold b3X
  cases deref e x with
  | none => rfl
  | some a => cases a <;> first | rfl | (cases (deref e y).bind key1 with
    | none => rfl
    | some k => cases deref e z with
      | none => rfl
      | some d =>
        dsimp only [b3D]
        split
        · rename_i kvs _
          cases dlookK k kvs <;> rfl
        · rfl)
@[simp] theorem b3D_k (e : Env) (kvs : List (Key × D)) (k : Key) (d : D) : b3D e (some (.dK kvs)) (some k) (some d) = if imm d then getO e d (dlookK k kvs) else .stk := rfl
@[simp] theorem key1_i (i : Int) : key1 (.int i) = some (.inl i) := rfl
@[simp] theorem pairsK_nil : pairsK [] = some [] := rfl
@[simp] theorem pairsK_cons (k d : D) (r : List D) : pairsK (k :: d :: r) = (key1 k).bind fun k => (pairsK r).map ((k, d) :: ·) := rfl
@[simp] theorem dispX_def (rest : List VI.X) (e : Env) : dispX (.tmp (.dK []) .full :: rest) e = ofO (((derefs e rest).bind pairsK).bind fun kvs => if kvs.length ≤ 15 ∧ (kvs.all fun kv => imm kv.2) = true then some (.tmp (.dK (kvs.foldl (fun acc kv => dputK kv.1 kv.2 acc) [])) .full) else none) e := rfl
theorem range_up (i j : Int) (h : -(2 ^ 62) ≤ i ∧ i < 2 ^ 62 ∧ -(2 ^ 62) ≤ j ∧ j < 2 ^ 62) : rangeOf [.int i, .int j] = some ((rangeI i (j - i).toNat 1).map D.int) := by
  show (if -(2 ^ 62) ≤ i ∧ i < 2 ^ 62 ∧ -(2 ^ 62) ≤ j ∧ j < 2 ^ 62 then some ((rangeI i (j - i).toNat 1).map D.int) else none) = _
  rw [if_pos h]
theorem range_to (j : Int) (h : -(2 ^ 62) ≤ j ∧ j < 2 ^ 62) : rangeOf [.int j] = some ((rangeI 0 j.toNat 1).map D.int) := by
  show (if -(2 ^ 62) ≤ j ∧ j < 2 ^ 62 then some ((rangeI 0 j.toNat 1).map D.int) else none) = _
  rw [if_pos h]
local macro_rules | `(tactic| walk_at "vi") => `(tactic| simp -implicitDefEqProofs [atI, ixN, *])
namespace C
/-! ### orders, rows -/
/-- where an exchange leads a thing -/
def ledT (p : Int × Int) (x : Int) : Int := if x = p.1 then p.2 else if x = p.2 then p.1 else x
def LedThing (cs : CS) : Prop := cs.io "led_thing" = [false, false] ∧ ∀ (p : Int × Int) (x : Int), cs.run "led_thing" [(tup2 p, .sh), (.int x, .sh)] = .ret (.int (ledT p x)) .full [.none, .none]
theorem ledThing {fs : List Fn} (h : Has fs f_led_thing) (k : Nat) : LedThing (csOf fs (k + 1)) := by
  refine ⟨h.io _, fun p x => ?_⟩
  rw [show ("led_thing" : Str) = f_led_thing.name from rfl, h.run k rfl (by decide)]
  obtain ⟨a, b⟩ := p
  unfold f_led_thing tup2 ledT
  by_cases h1 : x = a
  · subst h1
    walk_at "vi"
  · by_cases h2 : x = b
    · subst h2
      walk_at "vi"
    · walk_at "vi"
/-- the numbers from 1 to n -/
def upTo (n : Nat) : List Int := rangeI 1 n 1
def tupI (xs : List Int) : D := .tup (xs.map .int)
end C
end VI
namespace VI
open PySem PySem.Spec PyProof.Rows L2
local macro_rules | `(tactic| walk_at "vi") => `(tactic| simp -implicitDefEqProofs [atI, ixN, *])
namespace C
def Plain (cs : CS) : Prop := cs.io "plain" = [false] ∧ ∀ n : Nat, n ≤ 1000 → cs.run "plain" [(.int n, .sh)] = .ret (tupI (upTo n)) .full [.none]
theorem line1000 : (1000 : Nat) ≤ sizeLine := by rw [sizeLine_eq]; decide
theorem plain {fs : List Fn} (h : Has fs f_plain) (k : Nat) : Plain (csOf fs (k + 1)) := by
  refine ⟨h.io _, fun n hn => ?_⟩
  rw [show ("plain" : Str) = f_plain.name from rfl, h.run k rfl (by decide)]
  have hr := range_up 1 (n + 1) (by omega)
  have e : ((n : Int) + 1 - 1).toNat = n := by omega
  have hl : n ≤ sizeLine := Nat.le_trans hn line1000
  rw [e] at hr
  unfold f_plain tupI upTo
  walk_at "vi"
  simp [rangeI, hl]

/-- the order of a row -/
def ledR (n : Nat) (row : List (Int × Int)) : List Int := row.foldl (fun gs p => gs.map (ledT p)) (upTo n)
def lstP (row : List (Int × Int)) : D := .lst (row.map tup2)
def Led (cs : CS) : Prop := cs.io "led" = [false, false] ∧ ∀ (n : Nat) (row : List (Int × Int)), n ≤ 1000 → cs.run "led" [(.int n, .sh), (lstP row, .sh)] = .ret (tupI (ledR n row)) .full [.none, .none]
theorem led {fs : List Fn} (h : Has fs f_led) {k : Nat} (h1 : Plain (csOf fs k)) (h2 : LedThing (csOf fs k)) : Led (csOf fs (k + 1)) := by
  refine ⟨h.io _, fun n row hn => ?_⟩
  rw [show ("led" : Str) = f_led.name from rfl, h.run k rfl (by decide)]
  obtain ⟨i1, r1⟩ := h1
  obtain ⟨i2, r2⟩ := h2
  have r1' := r1 n hn
  unfold f_led lstP tupI
  walk_at "vi"
  rw [forL_fold (g := (fun d => (d, Lv.full)) ∘ tup2) (st := fun s : List Int × Slot => [Slot.own (D.int ↑n) Lv.sh, Slot.none, Slot.own (tupI s.1) Lv.full, s.2, Slot.none]) (step := fun s p => (s.1.map (ledT p), Slot.own (tup2 p) .full)) (J := fun s => s.1.length = n) row (upTo n, .none) (by simp [upTo, rangeI]) ?hs]
  case hs =>
    intro s p hj hp
    refine ⟨?_, by simpa using hj⟩
    unfold forF tupI
    walk_at "vi"
    rw [compL_map ((fun d => (d, Lv.full)) ∘ D.int) (fun x => (D.int (ledT p x), Lv.full)) _ _ _ ?hl ?hh]
    case hl => have := line1000; omega
    case hh =>
      intro x hx
      unfold compF
      walk_at "vi"
    · walk_at "vi"
  walk_at "vi"
  exact congrArg tupI (fold_fst (fun (s : List Int) (p : Int × Int) => s.map (ledT p)) (fun _ p => Slot.own (tup2 p) Lv.full) row (upTo n, .none))

theorem line0 {n : Nat} (h : n ≤ 1000) : n ≤ sizeLine := Nat.le_trans h line1000
/-- the thing at g -/
def nth1 (xs : List Int) (g : Int) : Int := xs.getD (g - 1).toNat 0
theorem at1 {xs : List Int} {g : Int} (h : 1 ≤ g ∧ g ≤ xs.length) : atI (xs.map D.int) (g - 1) = some (.int (nth1 xs g)) := by
  unfold atI ixN nth1
  rw [List.length_map, if_pos (by omega), if_pos (by omega)]
  show (xs.map D.int)[(g - 1).toNat]? = _
  rw [List.getElem?_map, List.getD_eq_getElem?_getD, List.getElem?_eq_getElem (by omega)]
  rfl
def Then (cs : CS) : Prop := cs.io "then" = [false, false] ∧ ∀ one other : List Int, one.length = other.length → one.length ≤ 1000 → (∀ g ∈ one, 1 ≤ g ∧ g ≤ other.length) →
  cs.run "then" [(tupI one, .sh), (tupI other, .sh)] = .ret (tupI (one.map (nth1 other))) .full [.none, .none]
theorem then_ {fs : List Fn} (h : Has fs f_then) (k : Nat) : Then (csOf fs (k + 1)) := by
  refine ⟨h.io _, fun one other hl hn hg => ?_⟩
  rw [show ("then" : Str) = f_then.name from rfl, h.run k rfl (by decide)]
  unfold f_then tupI
  simp -implicitDefEqProofs [hl]
  rw [compL_map ((fun d => (d, Lv.full)) ∘ D.int) (fun x => (D.int (nth1 other x), Lv.full)) _ _ _ ?hl ?hh]
  case hl => have := line0 hn; omega
  case hh =>
    intro x hx
    unfold compF
    have := at1 (hg x hx)
    simp -implicitDefEqProofs [this]
  simp -implicitDefEqProofs
def setB (m : List Int) (p : Int × Nat) : List Int := m.set (p.1 - 1).toNat ((p.2 : Int) + 1)
def backL (xs : List Int) : List Int := xs.zipIdx.foldl setB (List.replicate xs.length 0)
def Back (cs : CS) : Prop := cs.io "back" = [false] ∧ ∀ xs : List Int, xs.length ≤ 1000 → (∀ g ∈ xs, 1 ≤ g ∧ g ≤ xs.length) → cs.run "back" [(tupI xs, .sh)] = .ret (tupI (backL xs)) .full [.none]
theorem back {fs : List Fn} (h : Has fs f_back) (k : Nat) : Back (csOf fs (k + 1)) := by
  refine ⟨h.io _, fun xs hn hg => ?_⟩
  rw [show ("back" : Str) = f_back.name from rfl, h.run k rfl (by decide)]
  unfold f_back tupI
  simp -implicitDefEqProofs [-List.map_replicate, opLM_one _ _ _ hn]
  rw [forL_fold (g := fun p : Int × Nat => (D.tup [.int p.2, .int p.1], Lv.full)) (st := fun s : List Int × Slot × Slot => [Slot.none, .own (.lst (s.1.map D.int)) .full, s.2.1, s.2.2]) (step := fun s p => (setB s.1 p, Slot.none, Slot.own (.int p.1) .full)) (J := fun s => s.1.length = xs.length) xs.zipIdx (List.replicate xs.length 0, .none, .none) (by simp) ?hs]
  case hs =>
    intro s p hj hp
    have hp1 : p.1 ∈ xs := by
      obtain ⟨x, i⟩ := p
      exact (List.mem_zipIdx hp).2.2 ▸ List.getElem_mem _
    have hg1 := hg _ hp1
    refine ⟨?_, by simpa [setB] using hj⟩
    unfold forF setB
    have hix : ixN s.1.length (p.1 - 1) = some (p.1 - 1).toNat := by
      unfold ixN
      rw [if_pos (by omega), if_pos (by omega)]
    simp -implicitDefEqProofs [hix]
  simp -implicitDefEqProofs
  rw [fold_fst setB (fun _ p => (Slot.none, Slot.own (D.int p.1) Lv.full))]
  rfl
/-- each thing followed through a row -/
def follow (row : List (Int × Int)) (t : Int) : Int := row.foldl (fun g p => ledT p g) t
theorem follow_snoc (dn : List (Int × Int)) (p : Int × Int) (t : Int) : follow (dn ++ [p]) t = ledT p (follow dn t) := by simp [follow]
theorem swap_get (e : Env) {a b : Int} (h : a < b) (g : Int) : getO e (.int g) (dlookK (.inl g) (dputK (.inl b) (.int a) (dputK (.inl a) (.int b) []))) = .ok (.tmp (.int (ledT (a, b) g)) .full) e := by
  have h1 : dputK (.inl a) (.int b) [] = [(.inl a, .int b)] := rfl
  have h2 : dputK (.inl b) (.int a) [(.inl a, .int b)] = [(.inl a, .int b), (.inl b, .int a)] := by
    unfold dputK
    have : ¬ (Sum.inl a : Key) = .inl b := fun z => by cases z; omega
    simp [this]
  rw [h1, h2]
  unfold ledT
  by_cases e1 : g = a
  · subst e1; simp [dlookK]
  · by_cases e2 : g = b
    · subst e2
      have : ¬ a = g := by omega
      simp [dlookK, this, e1]
    · have h3 : ¬ a = g := fun z => e1 z.symm
      have h4 : ¬ b = g := fun z => e2 z.symm
      simp [dlookK, h3, h4, e1, e2]
def LawLed (cs : CS) : Prop := cs.io "_law_led" = [false, false] ∧ ∀ (n : Nat) (row : List (Int × Int)), n ≤ 1000 → (∀ p ∈ row, p.1 < p.2) → cs.run "_law_led" [(.int n, .sh), (lstP row, .sh)] = .ret (tupI ((upTo n).map (follow row))) .full [.none, .none]
theorem lawLed {fs : List Fn} (h : Has fs f__law_led) (k : Nat) : LawLed (csOf fs (k + 1)) := by
  refine ⟨h.io _, fun n row hn hr => ?_⟩
  rw [show ("_law_led" : Str) = f__law_led.name from rfl, h.run k rfl (by decide)]
  have hrg := range_up 1 (n + 1) (by omega)
  have e : ((n : Int) + 1 - 1).toNat = n := by omega
  rw [e] at hrg
  unfold f__law_led tupI lstP
  simp -implicitDefEqProofs [hrg]
  refine forL_end ((fun d => (d, Lv.full)) ∘ D.int) (fun done e => ∃ s3 s4 s5 s6, e = [Slot.own (.int n) .sh, .own (.lst (row.map tup2)) .sh, .own (.lst ((done.map (follow row)).map D.int)) .full, s3, s4, s5, s6]) (rangeI 1 n 1) ⟨_, _, _, _, rfl⟩ ?hs ?hk
  case hs =>
    rintro done t rest e hd ⟨s3, s4, s5, s6, rfl⟩
    have hlen : done.length < sizeLine := by
      have h1 := congrArg List.length hd
      simp [rangeI] at h1
      have := line1000
      omega
    unfold forF
    simp -implicitDefEqProofs
    refine forL_nx ((fun d => (d, Lv.full)) ∘ tup2) (fun dn e => ∃ s5 s6, e = [Slot.own (.int n) .sh, .own (.lst (row.map tup2)) .sh, .own (.lst ((done.map (follow row)).map D.int)) .full, .none, .own (.int (follow dn t)) .full, s5, s6]) row ⟨s5, s6, by simp [follow]⟩ ?hs2 ?hk2
    case hs2 =>
      rintro dn p rs e hp ⟨s5, s6, rfl⟩
      obtain ⟨a, b⟩ := p
      have hab : a < b := hr (a, b) (by rw [← hp]; simp)
      unfold forF tup2
      refine ⟨_, ?_, .own (.int a) .full, .own (.int b) .full, rfl⟩
      simp -implicitDefEqProofs [swap_get _ hab, follow_snoc]
    case hk2 =>
      rintro e ⟨s5, s6, rfl⟩
      refine ⟨_, ?_, .none, .none, s5, s6, rfl⟩
      simp -implicitDefEqProofs [hlen]
  case hk =>
    rintro e ⟨s3, s4, s5, s6, rfl⟩
    simp -implicitDefEqProofs
    rfl
def Wholes (cs : CS) : Prop := cs.io "_law_wholes" = [false] ∧ ∀ xs : List Int, xs.length ≤ 1000 → cs.run "_law_wholes" [(tupI xs, .sh)] = .ret (.bl true) .full [.none]
theorem wholes {fs : List Fn} (h : Has fs f__law_wholes_2) (k : Nat) : Wholes (csOf fs (k + 1)) := by
  refine ⟨h.io _, fun xs hn => ?_⟩
  rw [show ("_law_wholes" : Str) = f__law_wholes_2.name from rfl, h.run k rfl (by decide)]
  unfold f__law_wholes_2 tupI
  simp -implicitDefEqProofs
  rw [compL_map ((fun d => (d, Lv.full)) ∘ D.int) (fun x => (D.bl true, Lv.full)) _ _ _ ?hl ?hh]
  case hl => have := line0 hn; omega
  case hh =>
    intro x hx
    unfold compF
    simp -implicitDefEqProofs
  simp -implicitDefEqProofs [Function.comp_def]
/-! ### the purse -/
def purse (a b c : Int) : D := .lst [.int a, .int b, .int c]
def PurseOk (N : Nat) (d : D) : Prop := ∃ a b c : Int, d = purse a b c ∧ 0 ≤ a ∧ 0 ≤ b ∧ b < 2147483647 ∧ 0 ≤ c ∧ c ≤ N
def Purse (cs : CS) : Prop := cs.io "_law_purse" = [false, false] ∧ ∀ (ns : List Int) (k : Nat), k ≤ 1000 → ∃ d, PurseOk 0 d ∧ cs.run "_law_purse" [(.lst (ns.map .int), .sh), (.int k, .sh)] = .ret d .full [.none, .none]
theorem cmul_small {i j : Int} (h : -(2 ^ 64) < j ∧ j < 2 ^ 64) : CMul i j := .inr h
theorem cmul_left {i j : Int} (h : -(2 ^ 64) < i ∧ i < 2 ^ 64) : CMul i j := .inl h
theorem cmul_if (x : Int) (P : Prop) [Decidable P] : CMul x (if P then 1 else 0) := cmul_small (by split <;> decide)
theorem purse_ok {fs : List Fn} (h : Has fs f__law_purse) (k : Nat) : Purse (csOf fs (k + 1)) := by
  refine ⟨h.io _, fun ns k hk => ?_⟩
  rw [show ("_law_purse" : Str) = f__law_purse.name from rfl, h.run _ rfl (by decide)]
  have fin : ∀ (c : Int) (e : Env), ∃ d, PurseOk 0 d ∧ d = purse ((if c < 0 then -c else c) * (if decide ((10 : Int) ^ 18 ≤ (if c < 0 then -c else c)) = true then 1 else 0)) ((c % 2147483647 + 7919 * k + 17) % 2147483647) 0 := fun c e => by
    refine ⟨_, ⟨_, _, _, rfl, ?_, by omega, by omega, by omega, by omega⟩, rfl⟩
    split <;> split <;> omega
  have p18 : CPow 10 18 := by decide
  have m1 : CMul 7919 (k : Int) := cmul_left (by decide)
  have m2 : ∀ (x : Int) (b : Bool), CMul x (if b = true then 1 else 0) := fun x b => cmul_small (by cases b <;> decide)
  unfold f__law_purse
  by_cases hl : k < ns.length
  · have hc : (ns.map D.int)[k]? = some (.int ns[k]) := by simp [hl]
    obtain ⟨d, h1, h2⟩ := fin ns[k] []
    refine ⟨d, h1, ?_⟩
    subst h2
    unfold purse
    simp -implicitDefEqProofs [atI, ixN, hl, p18, m1, cmul_if]
  · obtain ⟨d, h1, h2⟩ := fin 0 []
    refine ⟨d, h1, ?_⟩
    subst h2
    unfold purse
    have m0 : CMul 0 0 := by decide
    simp -implicitDefEqProofs [atI, ixN, hl, p18, m1, m0]
def Take (cs : CS) : Prop := cs.io "_law_take" = [true, false] ∧ ∀ (N : Nat) (d : D) (m : Int), PurseOk N d → N < 100000 → 0 < m → m < 1073741824 →
  ∃ r d', cs.run "_law_take" [(d, .full), (.int m, .sh)] = .ret (.int r) .full [.own d' .full, .none] ∧ 0 ≤ r ∧ r < m ∧ PurseOk (N + 1) d'
theorem addLv_f {l : Lv} (h : l ≠ .sh) : addLv l .full = l := by cases l <;> first | rfl | exact absurd rfl h
theorem take_ok {fs : List Fn} (h : Has fs f__law_take) (k : Nat) : Take (csOf fs (k + 1)) := by
  refine ⟨h.io _, fun N d m hd hN hm hm2 => ?_⟩
  rw [show ("_law_take" : Str) = f__law_take.name from rfl, h.run _ rfl (by decide)]
  obtain ⟨a, b, c, rfl, ha, hb, hb2, hc, hc2⟩ := hd
  unfold f__law_take purse
  have cd : CDiv a m := ⟨hm, hm2⟩
  by_cases h0 : 0 < a
  · refine ⟨a % m, purse (a / m) b c, ?_, Int.emod_nonneg _ (by omega), Int.emod_lt_of_pos _ hm, a / m, b, c, rfl, Int.ediv_nonneg ha (by omega), hb, hb2, hc, by omega⟩
    unfold purse
    simp -implicitDefEqProofs [atI, ixN, h0, hm, cd]
  · have sq : (c + 1) * (c + 1) ≤ 100001 * 100001 := Int.mul_le_mul (by omega) (by omega) (by omega) (by omega)
    have sq0 : 0 ≤ (c + 1) * (c + 1) := Int.mul_nonneg (by omega) (by omega)
    have e1 : 48271 * (c + 1) * (c + 1) = 48271 * ((c + 1) * (c + 1)) := Int.mul_assoc _ _ _
    have m1 : CMul 48271 (c + 1) := cmul_left (by decide)
    have m2 : CMul (48271 * (c + 1)) (c + 1) := cmul_small (by omega)
    have p1 : CPow (b + 48271 * (c + 1) * (c + 1) + 1) 5 := ⟨by decide, by decide, by rw [e1]; omega⟩
    have r1 := Int.emod_nonneg ((b + 48271 * (c + 1) * (c + 1) + 1) ^ 5) (show (2147483647 : Int) ≠ 0 by decide)
    have r2 := Int.emod_lt_of_pos ((b + 48271 * (c + 1) * (c + 1) + 1) ^ 5) (show (0 : Int) < 2147483647 by decide)
    generalize hx : (b + 48271 * (c + 1) * (c + 1) + 1) ^ 5 % 2147483647 = x at r1 r2
    have m3 : CMul 2 (c + 1) := cmul_left (by decide)
    have m4 : CMul x (2 * (c + 1) + 30011) := cmul_left (by omega)
    have sx : x * (2 * (c + 1) + 30011) ≤ 2147483647 * 230013 := Int.mul_le_mul (by omega) (by omega) (by omega) (by omega)
    have sx0 : 0 ≤ x * (2 * (c + 1) + 30011) := Int.mul_nonneg (by omega) (by omega)
    have p2 : CPow (x * (2 * (c + 1) + 30011) + (c + 1)) 3 := ⟨by decide, by decide, by omega⟩
    have m5 : CMul x 998244353 := cmul_left (by omega)
    have d9 : ∀ y : Int, CDiv y 1009 := fun y => ⟨by decide, by decide⟩
    refine ⟨(x * 998244353 + (x * (2 * (c + 1) + 30011) + (c + 1)) ^ 3 % 998244353) / 1009 % m, purse a b (c + 1), ?_, Int.emod_nonneg _ (by omega), Int.emod_lt_of_pos _ hm, a, b, c + 1, rfl, ha, hb, hb2, by omega, by omega⟩
    unfold purse
    simp -implicitDefEqProofs [atI, ixN, h0, hm, m1, m2, p1, hx, m3, m4, p2, m5, d9]
/-- a row of n things -/
def RowOk (n : Nat) (row : List (Int × Int)) : Prop := ∀ p ∈ row, 1 ≤ p.1 ∧ p.1 < p.2 ∧ p.2 ≤ n
def Row (cs : CS) : Prop := cs.io "_law_row" = [true, false, false] ∧ ∀ (N : Nat) (d : D) (n most : Nat), PurseOk N d → N < 10000 → 1 ≤ n → n ≤ 1000 → most ≤ 100 →
  ∃ row d', cs.run "_law_row" [(d, .full), (.int n, .sh), (.int most, .sh)] = .ret (lstP row) .full [.own d' .full, .none, .none] ∧ RowOk n row ∧ row.length ≤ most ∧ PurseOk (N + 1000) d'
theorem PurseOk.mono {N M : Nat} {d : D} (h : PurseOk N d) (hm : N ≤ M) : PurseOk M d := by
  obtain ⟨a, b, c, h1, h2, h3, h4, h5, h6⟩ := h
  exact ⟨a, b, c, h1, h2, h3, h4, h5, by omega⟩
theorem other_ne {n one y : Int} (h1 : 1 ≤ one) (h2 : one ≤ n) (h3 : 0 ≤ y) (h4 : y < n - 1) : 0 ≤ (one + y) % n ∧ (one + y) % n < n ∧ 1 + (one + y) % n ≠ one := by
  refine ⟨Int.emod_nonneg _ (by omega), Int.emod_lt_of_pos _ (by omega), fun z => ?_⟩
  have e := Int.emod_def (one + y) n
  have hq : n * ((one + y) / n) = y + 1 := by omega
  generalize (one + y) / n = q at hq
  rcases Int.lt_or_le 0 q with hp | hp
  · have : n * 1 ≤ n * q := Int.mul_le_mul_of_nonneg_left (by omega) (by omega)
    omega
  · have : n * q ≤ n * 0 := Int.mul_le_mul_of_nonneg_left hp (by omega)
    omega
theorem row_ok {fs : List Fn} (h : Has fs f__law_row) {k : Nat} (ht : Take (csOf fs k)) : Row (csOf fs (k + 1)) := by
  refine ⟨h.io _, fun N d n most hd hN hn1 hn hm => ?_⟩
  rw [show ("_law_row" : Str) = f__law_row.name from rfl, h.run _ rfl (by decide)]
  obtain ⟨it, rt⟩ := ht
  by_cases h2 : n < 2
  · refine ⟨[], d, ?_, (fun p hp => by cases hp), (Nat.zero_le _), hd.mono (by omega)⟩
    unfold f__law_row lstP
    have h2' : (n : Int) < 2 := by omega
    simp -implicitDefEqProofs [h2']
  · obtain ⟨r1, d1, q1, b1, b2, p1⟩ := rt N d 3 hd (by omega) (by decide) (by decide)
    obtain ⟨r2, d2, q2, b3, b4, p2⟩ := rt (N + 1) d1 (most + 1) p1 (by omega) (by omega) (by omega)
    have h2' : ¬ (n : Int) < 2 := by omega
    unfold f__law_row lstP
    have near : ∃ nr : Int, 1 ≤ nr ∧ nr ≤ n ∧ atI [D.int n, D.int n, D.int (if (3 : Int) < n then 3 else n)] r1 = some (.int nr) := by
      have c : r1 = 0 ∨ r1 = 1 ∨ r1 = 2 := by omega
      rcases c with rfl | rfl | rfl
      · exact ⟨n, by omega, by omega, rfl⟩
      · exact ⟨n, by omega, by omega, rfl⟩
      · exact ⟨if (3 : Int) < n then 3 else n, by split <;> omega, by split <;> omega, rfl⟩
    obtain ⟨nr, nr1, nr2, hnr⟩ := near
    have hrg := range_to r2 (by omega)
    simp -implicitDefEqProofs [h2', it, q1, q2, hnr, hrg]
    refine forL_seq ((fun d => (d, Lv.full)) ∘ D.int) (fun done e => ∃ row d s5 s6 s7, e = [Slot.own d .full, .own (.int n) .sh, .own (.int most) .sh, .own (.lst (row.map tup2)) .full, .own (.int nr) .full, s5, s6, s7] ∧ RowOk n row ∧ row.length = done.length ∧ PurseOk (N + 2 + 2 * done.length) d) (rangeI 0 r2.toNat 1)
      (r := fun x => ∃ row d', endOf _ x = CR.ret (.lst (row.map tup2)) .full [Slot.own d' .full, .none, .none] ∧ RowOk n row ∧ row.length ≤ most ∧ PurseOk (N + 1000) d') ⟨[], d2, _, _, _, rfl, (fun p hp => by cases hp), rfl, p2⟩ ?hs ?hk
    case hs =>
      rintro done t rest e hd ⟨row, d, s5, s6, s7, rfl, k1, k2, k3⟩
      have hlen := congrArg List.length hd
      simp [rangeI] at hlen
      obtain ⟨x, d3, q3, c1, c2, p3⟩ := rt _ d nr k3 (by omega) (by omega) (by omega)
      obtain ⟨y, d4, q4, c3, c4, p4⟩ := rt _ d3 (n - 1) p3 (by omega) (by omega) (by omega)
      obtain ⟨o1, o2, o3⟩ := other_ne (n := n) (one := 1 + x) (y := y) (by omega) (by omega) c3 c4
      have hl : row.length < sizeLine := Nat.lt_of_lt_of_le (show row.length < 1000 by omega) line1000
      have np : 0 < n := by omega
      unfold forF
      refine ⟨_, ?_, row ++ [(if 1 + (1 + x + y) % n < 1 + x then 1 + (1 + x + y) % n else 1 + x, if 1 + (1 + x + y) % n > 1 + x then 1 + (1 + x + y) % n else 1 + x)], d4, .own (.int t) .full, .own (.int (1 + x)) .full, .own (.int (1 + (1 + x + y) % n)) .full, rfl, ?_, ?_, ?_⟩
      · simp -implicitDefEqProofs [it, q3, q4, np, hl]
        simp [tup2]
      · intro p hp
        rcases List.mem_append.mp hp with hp | hp
        · exact k1 p hp
        · rw [List.mem_singleton.mp hp]
          dsimp only
          split <;> split <;> (refine ⟨?_, ?_, ?_⟩ <;> omega)
      · simp [k2]
      · exact p4.mono (by simp; omega)
    case hk =>
      rintro e ⟨row, d, s5, s6, s7, rfl, k1, k2, k3⟩
      refine ⟨row, d, ?_, k1, by simp [rangeI] at k2; omega, k3.mono (by simp [rangeI]; omega)⟩
      simp -implicitDefEqProofs
end C
end VI
namespace VI
open PySem PySem.Spec PyProof.Rows L2
namespace C
/-! ### orders of rows: what is so -/
theorem ledR_map (n : Nat) (row : List (Int × Int)) : ledR n row = (upTo n).map (follow row) := by
  unfold ledR
  generalize upTo n = xs
  induction row generalizing xs with
  | nil => show xs = xs.map fun t => t; simp
  | cons p row ih =>
    show List.foldl _ (xs.map (ledT p)) row = _
    rw [ih, List.map_map]; rfl
theorem follow_app (a b : List (Int × Int)) (t : Int) : follow (a ++ b) t = follow b (follow a t) := by simp [follow]
theorem ledT_in {n : Nat} {p : Int × Int} (h : 1 ≤ p.1 ∧ p.1 < p.2 ∧ p.2 ≤ n) {t : Int} (ht : 1 ≤ t ∧ t ≤ n) : 1 ≤ ledT p t ∧ ledT p t ≤ n := by
  unfold ledT
  split
  · omega
  · split <;> omega
theorem follow_in {n : Nat} : ∀ {row : List (Int × Int)}, RowOk n row → ∀ {t : Int}, 1 ≤ t ∧ t ≤ n → 1 ≤ follow row t ∧ follow row t ≤ n
  | [], _, _, h => h
  | p :: row, hr, t, h => follow_in (row := row) (fun q hq => hr q (List.mem_cons_of_mem _ hq)) (ledT_in (hr p List.mem_cons_self) h)
theorem ledT_twice (p : Int × Int) (t : Int) : ledT p (ledT p t) = t := by
  unfold ledT
  split <;> split <;> first | omega | (split <;> omega) | skip
  all_goals first | omega | skip
theorem follow_back (row : List (Int × Int)) : ∀ t, follow row.reverse (follow row t) = t := by
  induction row with
  | nil => intro t; rfl
  | cons p row ih =>
    intro t
    rw [List.reverse_cons, follow_snoc]
    show ledT p (follow row.reverse (follow row (ledT p t))) = t
    rw [ih, ledT_twice]
theorem upTo_len (n : Nat) : (upTo n).length = n := by simp [upTo, rangeI]
theorem upTo_get (n i : Nat) (h : i < n) : (upTo n)[i]? = some ((i : Int) + 1) := by
  simp [upTo, rangeI, h]; omega
theorem mem_upTo {n : Nat} {t : Int} : t ∈ upTo n ↔ 1 ≤ t ∧ t ≤ n := by
  simp only [upTo, rangeI, List.mem_map, List.mem_range]
  constructor
  · rintro ⟨k, hk, rfl⟩; omega
  · intro h; exact ⟨(t - 1).toNat, by omega, by omega⟩
theorem nth1_upTo {n : Nat} (f : Int → Int) {g : Int} (h : 1 ≤ g ∧ g ≤ n) : nth1 ((upTo n).map f) g = f g := by
  unfold nth1
  rw [List.getD_eq_getElem?_getD, List.getElem?_map, upTo_get n _ (by omega)]
  show f _ = f g
  congr 1; omega
theorem ledR_app {n : Nat} {a b : List (Int × Int)} (ha : RowOk n a) : ledR n (a ++ b) = (ledR n a).map (nth1 (ledR n b)) := by
  rw [ledR_map, ledR_map, ledR_map, List.map_map]
  refine List.map_congr_left fun t ht => ?_
  rw [follow_app]
  show _ = nth1 ((upTo n).map (follow b)) (follow a t)
  rw [nth1_upTo _ (follow_in ha (mem_upTo.mp ht))]
theorem foldSet : ∀ (l : List (Int × Nat)) (m : List Int) (j : Nat) (v : Int), (∀ p ∈ l, (p.1 - 1).toNat = j → (p.2 : Int) + 1 = v) → (m[j]? = some v ∨ ∃ p ∈ l, (p.1 - 1).toNat = j) → j < m.length → (l.foldl setB m)[j]? = some v
  | [], m, j, v, _, h, _ => by
    rcases h with h | ⟨p, hp, _⟩
    · exact h
    · cases hp
  | p :: l, m, j, v, hv, h, hj => by
    refine foldSet l (setB m p) j v (fun q hq => hv q (List.mem_cons_of_mem _ hq)) ?_ (by simpa [setB] using hj)
    by_cases e : (p.1 - 1).toNat = j
    · left
      unfold setB
      rw [e, List.getElem?_set_self hj, hv p List.mem_cons_self e]
    · rcases h with h | ⟨q, hq, e2⟩
      · left
        unfold setB
        rw [List.getElem?_set_ne e]; exact h
      · rcases List.mem_cons.mp hq with rfl | hq
        · exact absurd e2 e
        · exact .inr ⟨q, hq, e2⟩
theorem setB_len (l : List (Int × Nat)) : ∀ m : List Int, (l.foldl setB m).length = m.length := by
  induction l with
  | nil => intro m; rfl
  | cons p l ih => intro m; show (l.foldl setB (setB m p)).length = _; rw [ih]; simp [setB]
theorem backL_inv {n : Nat} (f g : Int → Int) (hf : ∀ t : Int, 1 ≤ t ∧ t ≤ n → 1 ≤ f t ∧ f t ≤ n) (hg : ∀ t : Int, 1 ≤ t ∧ t ≤ n → 1 ≤ g t ∧ g t ≤ n) (hfg : ∀ t : Int, 1 ≤ t ∧ t ≤ n → f (g t) = t) (hgf : ∀ t : Int, 1 ≤ t ∧ t ≤ n → g (f t) = t) : backL ((upTo n).map f) = (upTo n).map g := by
  have hl : (backL ((upTo n).map f)).length = n := by
    unfold backL
    rw [setB_len]; simp [upTo_len]
  refine List.ext_getElem? fun j => ?_
  by_cases hj : j < n
  · rw [List.getElem?_map, upTo_get n j hj]
    unfold backL
    have gj := hg (j + 1) (by omega)
    refine foldSet _ _ j (g ((j : Int) + 1)) (fun p hp e => ?_) (.inr ⟨((j : Int) + 1, (g (j + 1) - 1).toNat), ?_, by simp⟩) (by simpa [upTo_len] using hj)
    · obtain ⟨x, i⟩ := p
      have h1 := List.mem_zipIdx hp
      have hi : i < n := by simpa [upTo_len] using h1.2.1
      have hx : x = f ((i : Int) + 1) := by
        have h2 := h1.2.2
        simp only [Nat.sub_zero] at h2
        rw [h2, List.getElem_map]
        congr 1
        have := upTo_get n i hi
        rw [List.getElem?_eq_getElem (by rw [upTo_len]; exact hi)] at this
        exact Option.some.inj this
      have fi := hf (i + 1) (by omega)
      dsimp only at e ⊢
      have ex : x = (j : Int) + 1 := by omega
      rw [← ex, hx, hgf _ (by omega)]
    · have hi : (g ((j : Int) + 1) - 1).toNat < n := by omega
      refine List.mem_zipIdx_iff_getElem?.mpr ?_
      rw [List.getElem?_map, upTo_get n _ hi]
      show some (f _) = some _
      rw [show (((g ((j : Int) + 1) - 1).toNat : Nat) : Int) + 1 = g (j + 1) by omega, hfg _ (by omega)]
  · rw [List.getElem?_eq_none (by omega), List.getElem?_eq_none (by simp [upTo_len]; omega)]
theorem RowOk.rev {n : Nat} {row : List (Int × Int)} (h : RowOk n row) : RowOk n row.reverse := fun p hp => h p (List.mem_reverse.mp hp)
theorem backL_led {n : Nat} {row : List (Int × Int)} (h : RowOk n row) : backL (ledR n row) = ledR n row.reverse := by
  rw [ledR_map, ledR_map]
  refine backL_inv _ _ (fun t ht => follow_in h ht) (fun t ht => follow_in h.rev ht) (fun t ht => ?_) fun t ht => follow_back row t
  have := follow_back row.reverse t
  rwa [List.reverse_reverse] at this
theorem ledR_len (n : Nat) (row : List (Int × Int)) : (ledR n row).length = n := by rw [ledR_map, List.length_map, upTo_len]
theorem ledR_in {n : Nat} {row : List (Int × Int)} (h : RowOk n row) : ∀ g ∈ ledR n row, 1 ≤ g ∧ g ≤ n := fun g hg => by
  rw [ledR_map] at hg
  obtain ⟨t, ht, rfl⟩ := List.mem_map.mp hg
  exact follow_in h (mem_upTo.mp ht)
end C
end VI
namespace VI
namespace K10
open PySem PySem.Spec PyProof.Rows L2
def f__law_others : Fn where
  name := "_law_others"
  N := ["_law_purse_here", "_law_n", "_law_row_here", "_law_at", "_law_more", "_law_found"]
  np := 3
  io := [true, false, false]
  body := bl [.asg (.nm 3) (.call "_law_take" (.cons (.var 0) (.cons (.op .add (.b1 .len (.var 2)) (.int 1)) .nil))),
    .asg (.nm 4) (.call "_law_row" (.cons (.var 0) (.cons (.var 1) (.cons (.int 1) .nil)))),
    .asg (.nm 5) (.lst (.cons (.op .add (.op .add (.slc (.var 2) .no (.so (.var 3))) (.mov 4)) (.slc (.var 2) (.so (.var 3)) .no)) (.cons (.op .add (.op .add (.slc (.var 2) .no (.so (.var 3))) (.slc (.var 2) (.so (.var 3)) (.so (.op .add (.var 3) (.int 1))))) (.slc (.var 2) (.so (.var 3)) .no)) (.cons (.op .add (.slc (.var 2) .no (.so (.var 3))) (.slc (.var 2) (.so (.op .add (.var 3) (.int 1))) .no)) .nil)))),
    .ite (.cmp .gt (.var 3) (.int 0)) (bl [.app 5 (.op .add (.op .add (.slc (.var 2) .no (.so (.var 3))) (.lst (.cons (.sub (.var 2) (.op .sub (.var 3) (.int 1))) .nil))) (.slc (.var 2) (.so (.var 3)) .no)),
    .app 5 (.op .add (.lst (.cons (.sub (.var 2) (.op .sub (.var 3) (.int 1))) .nil)) (.var 2))]) (bl []),
    .ret (.mov 5)]

def f__law_asked : Fn where
  name := "_law_asked"
  N := ["_law_n", "_law_row_here", "_law_due", "_law_handed", "_law_told"]
  np := 2
  io := [false, false]
  body := bl [.asg (.nm 2) (.cmp .eq (.b1 .len (.var 1)) (.op .sub (.var 0) (.b1 .len (.call "_law_rounds" (.cons (.call "_law_led" (.cons (.var 0) (.cons (.var 1) .nil))) .nil))))),
    .asg (.nm 3) (.b1 .list (.var 1)),
    .asg (.nm 4) (.call "is_least" (.cons (.var 0) (.cons (.var 3) .nil))),
    .ret (.and (.isin (.var 4) .bool) (.and (.cmp .eq (.var 4) (.var 2)) (.cmp .eq (.var 3) (.var 1))))]

def f_law : Fn where
  name := "law"
  N := ["_law_script", "_law_k", "_law_purse_here", "_law_n", "_law_order_here", "_law_row_here", "_law_handed", "_law_one", "_law_some"]
  np := 1
  io := [false]
  body := bl [.for (.nm 1) (.rng (.cons (.b2 .max (.int 2) (.b2 .min (.b1 .len (.var 0)) (.int 16))) .nil)) (bl [.asg (.nm 2) (.call "_law_purse" (.cons (.var 0) (.cons (.var 1) .nil))),
    .asg (.nm 3) (.op .add (.int 1) (.call "_law_take" (.cons (.var 2) (.cons (.int 12) .nil)))),
    .asg (.nm 4) (.call "_law_order" (.cons (.var 2) (.cons (.var 3) .nil))),
    .asg (.nm 5) (.call "_law_least_row" (.cons (.var 2) (.cons (.var 4) .nil))),
    .asg (.nm 6) (.b1 .list (.var 5)),
    .ite (.or (.isc false (.call "is_least" (.cons (.var 3) (.cons (.var 6) .nil))) (.bl true)) (.cmp .ne (.var 6) (.var 5))) (bl [.ret (.bl false)]) (bl []),
    .ite (.cmp .ne (.call "parts" (.cons (.var 3) (.cons (.var 5) .nil))) (.b1 .sorted (.comp (.nm 8) [8] (.val (.call "_law_rounds" (.cons (.var 4) .nil))) .no (.b1 .sorted (.var 8))))) (bl [.ret (.bl false)]) (bl []),
    .for (.nm 7) (.val (.op .add (.call "_law_others" (.cons (.var 2) (.cons (.var 3) (.cons (.var 5) .nil)))) (.lst (.cons (.call "_law_row" (.cons (.var 2) (.cons (.var 3) (.cons (.int 12) .nil)))) (.cons (.call "_law_row" (.cons (.var 2) (.cons (.var 3) (.cons (.int 3) .nil)))) .nil))))) (bl [.ite (.not (.call "_law_asked" (.cons (.var 3) (.cons (.var 7) .nil)))) (bl [.ret (.bl false)]) (bl [])]),
    .ite (.cmp .gt (.var 3) (.int 1)) (bl [.app 6 (.tup (.cons (.int 1) (.cons (.var 3) .nil))),
    .app 6 (.tup (.cons (.int 1) (.cons (.var 3) .nil))),
    .ite (.isc false (.call "is_least" (.cons (.var 3) (.cons (.var 6) .nil))) (.bl false)) (bl [.ret (.bl false)]) (bl [])]) (bl [])]),
    .ret (.bl true)]

def fns : List Fn := [C.f_plain, C.f_round_from, C.f_rounds, C.f_led_thing, C.f_led, C.f_joined_lists, C.f_parts, C.f_is_least, C.f__law_purse, C.f__law_take, C.f__law_order, C.f__law_row, C.f__law_led, C.f__law_rounds, C.f__law_least_row, f__law_others, f__law_asked, f_law]
def gi : List (Str × Int) := []
def gs : List (Str × Str) := []
/-! ### the head -/
def fr : List Str := ["tuple", "range", "len", "sorted", "abs", "int", "list", "min", "max", "isinstance", "bool"]
def top (i : Nat) : Stmt := PySem.Challenge.pw_swapstars_k10_least_rows_known.main.body.getD i (.Pass ⟨0, 0, 0, 0⟩)
def dd (x : Str) (i : Nat) : He.DefD := ⟨(x, none), x, x, defArgs (top i), defBody (top i), defScope (top i), [], []⟩
def fn : List He.DefD := [dd "plain" 1, dd "round_from" 2, dd "rounds" 3, dd "led_thing" 5, dd "led" 6, dd "joined_lists" 7, dd "parts" 8, dd "is_least" 9, dd "_law_purse" 11, dd "_law_take" 12, dd "_law_order" 13, dd "_law_row" 14, dd "_law_led" 15, dd "_law_rounds" 16, dd "_law_least_row" 17, dd "_law_others" 18, dd "_law_asked" 19, dd "law" 20]
def fa : List He.Fa := [.glo "plain", .glo "round_from", .glo "rounds", .glo "led_thing", .glo "led", .glo "joined_lists", .glo "parts", .glo "is_least", .glo "_law_purse", .glo "_law_take", .glo "_law_order", .glo "_law_row", .glo "_law_led", .glo "_law_rounds", .glo "_law_least_row", .glo "_law_others", .glo "_law_asked", .glo "law", .free "tuple", .free "range", .free "len", .free "sorted", .free "abs", .free "int", .free "list", .free "min", .free "max", .free "isinstance", .free "bool"]
def loose0 : List Str := ["plain", "round_from", "rounds", "led_thing", "led", "joined_lists", "parts", "is_least", "_law_purse", "_law_take", "_law_order", "_law_row", "_law_led", "_law_rounds", "_law_least_row", "_law_others", "_law_asked"]
def loose : List Str := loose0
abbrev R : PySem.W.OpenRow := PySem.W.OpenLaw.row PySem.Challenge.rw_swapstars_k10_least_rows_known
abbrev hk : PySem.W.Hook := hookV 4 fa fn
def ob (s : PySem.W.SharedT) : AlV := obsVG 4 fa fn (HandSHeadRun.getT s)
theorem ob_eq (s : PySem.W.SharedT) : ob s = hk.obs s.abs := obsVG_eq (HandSHeadRun.getT_eq s)
theorem run (w : World) : HandSHeadRun.RunEq R (PySem.W.view R.prog [20]) hk ob 2000 loose w := by
  intro os
  kernel_rfl
section
variable {K : PySem.W.Frag} {h : Heap} {mg : Str → Option Value}
theorem st_plain (X : K.In h) (G : h.Ns mainGlobals mg) (c : SaysV fa fn K) : Stands K mg fns fr gi gs C.f_plain := by
  obtain ⟨fd, F⟩ := c.says.def_ 0 (d := dd "plain" 1) rfl
  exact ⟨_, fd, _, _, _, _, _, He.glo_ok X G (c.says.fact 0 (f := .glo "plain") rfl), F, by decide +kernel, F.bindsN fun _ _ _ _ _ _ us hl => match us, hl with | [_], _ => rfl⟩
theorem st_round_from (X : K.In h) (G : h.Ns mainGlobals mg) (c : SaysV fa fn K) : Stands K mg fns fr gi gs C.f_round_from := by
  obtain ⟨fd, F⟩ := c.says.def_ 1 (d := dd "round_from" 2) rfl
  exact ⟨_, fd, _, _, _, _, _, He.glo_ok X G (c.says.fact 1 (f := .glo "round_from") rfl), F, by decide +kernel, F.bindsN fun _ _ _ _ _ _ us hl => match us, hl with | [_, _], _ => rfl⟩
theorem st_rounds (X : K.In h) (G : h.Ns mainGlobals mg) (c : SaysV fa fn K) : Stands K mg fns fr gi gs C.f_rounds := by
  obtain ⟨fd, F⟩ := c.says.def_ 2 (d := dd "rounds" 3) rfl
  exact ⟨_, fd, _, _, _, _, _, He.glo_ok X G (c.says.fact 2 (f := .glo "rounds") rfl), F, by decide +kernel, F.bindsN fun _ _ _ _ _ _ us hl => match us, hl with | [_], _ => rfl⟩
theorem st_led_thing (X : K.In h) (G : h.Ns mainGlobals mg) (c : SaysV fa fn K) : Stands K mg fns fr gi gs C.f_led_thing := by
  obtain ⟨fd, F⟩ := c.says.def_ 3 (d := dd "led_thing" 5) rfl
  exact ⟨_, fd, _, _, _, _, _, He.glo_ok X G (c.says.fact 3 (f := .glo "led_thing") rfl), F, by decide +kernel, F.bindsN fun _ _ _ _ _ _ us hl => match us, hl with | [_, _], _ => rfl⟩
theorem st_led (X : K.In h) (G : h.Ns mainGlobals mg) (c : SaysV fa fn K) : Stands K mg fns fr gi gs C.f_led := by
  obtain ⟨fd, F⟩ := c.says.def_ 4 (d := dd "led" 6) rfl
  exact ⟨_, fd, _, _, _, _, _, He.glo_ok X G (c.says.fact 4 (f := .glo "led") rfl), F, by decide +kernel, F.bindsN fun _ _ _ _ _ _ us hl => match us, hl with | [_, _], _ => rfl⟩
theorem st_joined_lists (X : K.In h) (G : h.Ns mainGlobals mg) (c : SaysV fa fn K) : Stands K mg fns fr gi gs C.f_joined_lists := by
  obtain ⟨fd, F⟩ := c.says.def_ 5 (d := dd "joined_lists" 7) rfl
  exact ⟨_, fd, _, _, _, _, _, He.glo_ok X G (c.says.fact 5 (f := .glo "joined_lists") rfl), F, by decide +kernel, F.bindsN fun _ _ _ _ _ _ us hl => match us, hl with | [_, _], _ => rfl⟩
theorem st_parts (X : K.In h) (G : h.Ns mainGlobals mg) (c : SaysV fa fn K) : Stands K mg fns fr gi gs C.f_parts := by
  obtain ⟨fd, F⟩ := c.says.def_ 6 (d := dd "parts" 8) rfl
  exact ⟨_, fd, _, _, _, _, _, He.glo_ok X G (c.says.fact 6 (f := .glo "parts") rfl), F, by decide +kernel, F.bindsN fun _ _ _ _ _ _ us hl => match us, hl with | [_, _], _ => rfl⟩
theorem st_is_least (X : K.In h) (G : h.Ns mainGlobals mg) (c : SaysV fa fn K) : Stands K mg fns fr gi gs C.f_is_least := by
  obtain ⟨fd, F⟩ := c.says.def_ 7 (d := dd "is_least" 9) rfl
  exact ⟨_, fd, _, _, _, _, _, He.glo_ok X G (c.says.fact 7 (f := .glo "is_least") rfl), F, by decide +kernel, F.bindsN fun _ _ _ _ _ _ us hl => match us, hl with | [_, _], _ => rfl⟩
theorem st__law_purse (X : K.In h) (G : h.Ns mainGlobals mg) (c : SaysV fa fn K) : Stands K mg fns fr gi gs C.f__law_purse := by
  obtain ⟨fd, F⟩ := c.says.def_ 8 (d := dd "_law_purse" 11) rfl
  exact ⟨_, fd, _, _, _, _, _, He.glo_ok X G (c.says.fact 8 (f := .glo "_law_purse") rfl), F, by decide +kernel, F.bindsN fun _ _ _ _ _ _ us hl => match us, hl with | [_, _], _ => rfl⟩
theorem st__law_take (X : K.In h) (G : h.Ns mainGlobals mg) (c : SaysV fa fn K) : Stands K mg fns fr gi gs C.f__law_take := by
  obtain ⟨fd, F⟩ := c.says.def_ 9 (d := dd "_law_take" 12) rfl
  exact ⟨_, fd, _, _, _, _, _, He.glo_ok X G (c.says.fact 9 (f := .glo "_law_take") rfl), F, by decide +kernel, F.bindsN fun _ _ _ _ _ _ us hl => match us, hl with | [_, _], _ => rfl⟩
theorem st__law_order (X : K.In h) (G : h.Ns mainGlobals mg) (c : SaysV fa fn K) : Stands K mg fns fr gi gs C.f__law_order := by
  obtain ⟨fd, F⟩ := c.says.def_ 10 (d := dd "_law_order" 13) rfl
  exact ⟨_, fd, _, _, _, _, _, He.glo_ok X G (c.says.fact 10 (f := .glo "_law_order") rfl), F, by decide +kernel, F.bindsN fun _ _ _ _ _ _ us hl => match us, hl with | [_, _], _ => rfl⟩
theorem st__law_row (X : K.In h) (G : h.Ns mainGlobals mg) (c : SaysV fa fn K) : Stands K mg fns fr gi gs C.f__law_row := by
  obtain ⟨fd, F⟩ := c.says.def_ 11 (d := dd "_law_row" 14) rfl
  exact ⟨_, fd, _, _, _, _, _, He.glo_ok X G (c.says.fact 11 (f := .glo "_law_row") rfl), F, by decide +kernel, F.bindsN fun _ _ _ _ _ _ us hl => match us, hl with | [_, _, _], _ => rfl⟩
theorem st__law_led (X : K.In h) (G : h.Ns mainGlobals mg) (c : SaysV fa fn K) : Stands K mg fns fr gi gs C.f__law_led := by
  obtain ⟨fd, F⟩ := c.says.def_ 12 (d := dd "_law_led" 15) rfl
  exact ⟨_, fd, _, _, _, _, _, He.glo_ok X G (c.says.fact 12 (f := .glo "_law_led") rfl), F, by decide +kernel, F.bindsN fun _ _ _ _ _ _ us hl => match us, hl with | [_, _], _ => rfl⟩
theorem st__law_rounds (X : K.In h) (G : h.Ns mainGlobals mg) (c : SaysV fa fn K) : Stands K mg fns fr gi gs C.f__law_rounds := by
  obtain ⟨fd, F⟩ := c.says.def_ 13 (d := dd "_law_rounds" 16) rfl
  exact ⟨_, fd, _, _, _, _, _, He.glo_ok X G (c.says.fact 13 (f := .glo "_law_rounds") rfl), F, by decide +kernel, F.bindsN fun _ _ _ _ _ _ us hl => match us, hl with | [_], _ => rfl⟩
theorem st__law_least_row (X : K.In h) (G : h.Ns mainGlobals mg) (c : SaysV fa fn K) : Stands K mg fns fr gi gs C.f__law_least_row := by
  obtain ⟨fd, F⟩ := c.says.def_ 14 (d := dd "_law_least_row" 17) rfl
  exact ⟨_, fd, _, _, _, _, _, He.glo_ok X G (c.says.fact 14 (f := .glo "_law_least_row") rfl), F, by decide +kernel, F.bindsN fun _ _ _ _ _ _ us hl => match us, hl with | [_, _], _ => rfl⟩
theorem st__law_others (X : K.In h) (G : h.Ns mainGlobals mg) (c : SaysV fa fn K) : Stands K mg fns fr gi gs f__law_others := by
  obtain ⟨fd, F⟩ := c.says.def_ 15 (d := dd "_law_others" 18) rfl
  exact ⟨_, fd, _, _, _, _, _, He.glo_ok X G (c.says.fact 15 (f := .glo "_law_others") rfl), F, by decide +kernel, F.bindsN fun _ _ _ _ _ _ us hl => match us, hl with | [_, _, _], _ => rfl⟩
theorem st__law_asked (X : K.In h) (G : h.Ns mainGlobals mg) (c : SaysV fa fn K) : Stands K mg fns fr gi gs f__law_asked := by
  obtain ⟨fd, F⟩ := c.says.def_ 16 (d := dd "_law_asked" 19) rfl
  exact ⟨_, fd, _, _, _, _, _, He.glo_ok X G (c.says.fact 16 (f := .glo "_law_asked") rfl), F, by decide +kernel, F.bindsN fun _ _ _ _ _ _ us hl => match us, hl with | [_, _], _ => rfl⟩
theorem st_law (X : K.In h) (G : h.Ns mainGlobals mg) (c : SaysV fa fn K) : Stands K mg fns fr gi gs f_law := by
  obtain ⟨fd, F⟩ := c.says.def_ 17 (d := dd "law" 20) rfl
  exact ⟨_, fd, _, _, _, _, _, He.glo_ok X G (c.says.fact 17 (f := .glo "law") rfl), F, by decide +kernel, F.bindsN fun _ _ _ _ _ _ us hl => match us, hl with | [_], _ => rfl⟩
theorem stands (X : K.In h) (G : h.Ns mainGlobals mg) (c : SaysV fa fn K) : ∀ d ∈ fns, Stands K mg fns fr gi gs d := by
  intro d hd
  simp only [fns, List.mem_cons, List.not_mem_nil, or_false] at hd
  rcases hd with rfl | rfl | rfl | rfl | rfl | rfl | rfl | rfl | rfl | rfl | rfl | rfl | rfl | rfl | rfl | rfl | rfl | rfl
  · exact st_plain X G c
  · exact st_round_from X G c
  · exact st_rounds X G c
  · exact st_led_thing X G c
  · exact st_led X G c
  · exact st_joined_lists X G c
  · exact st_parts X G c
  · exact st_is_least X G c
  · exact st__law_purse X G c
  · exact st__law_take X G c
  · exact st__law_order X G c
  · exact st__law_row X G c
  · exact st__law_led X G c
  · exact st__law_rounds X G c
  · exact st__law_least_row X G c
  · exact st__law_others X G c
  · exact st__law_asked X G c
  · exact st_law X G c
theorem frees (X : K.In h) (G : h.Ns mainGlobals mg) (c : SaysV fa fn K) : ∀ x ∈ fr, mg x = none := by
  intro x hx
  simp only [fr, List.mem_cons, List.not_mem_nil, or_false] at hx
  rcases hx with rfl | rfl | rfl | rfl | rfl | rfl | rfl | rfl | rfl | rfl | rfl
  · exact He.free_ok X G (c.says.fact 18 (f := .free "tuple") rfl)
  · exact He.free_ok X G (c.says.fact 19 (f := .free "range") rfl)
  · exact He.free_ok X G (c.says.fact 20 (f := .free "len") rfl)
  · exact He.free_ok X G (c.says.fact 21 (f := .free "sorted") rfl)
  · exact He.free_ok X G (c.says.fact 22 (f := .free "abs") rfl)
  · exact He.free_ok X G (c.says.fact 23 (f := .free "int") rfl)
  · exact He.free_ok X G (c.says.fact 24 (f := .free "list") rfl)
  · exact He.free_ok X G (c.says.fact 25 (f := .free "min") rfl)
  · exact He.free_ok X G (c.says.fact 26 (f := .free "max") rfl)
  · exact He.free_ok X G (c.says.fact 27 (f := .free "isinstance") rfl)
  · exact He.free_ok X G (c.says.fact 28 (f := .free "bool") rfl)
theorem gis (X : K.In h) (G : h.Ns mainGlobals mg) (c : SaysV fa fn K) : ∀ p ∈ gi, ∃ t, mg p.1 = some (.int p.2 t) := by
  intro p hp
  cases hp
theorem gss (X : K.In h) (G : h.Ns mainGlobals mg) (c : SaysV fa fn K) : ∀ p ∈ gs, ∃ t, mg p.1 = some (.str p.2 t) := by
  intro p hp
  cases hp
end
theorem lawEnd (k : Nat) (hr : Room (k + 1) callerA) (law : ∀ ns : List Int, ns.length ≤ 63 → ∃ lv outs, runF fns (k + 1) "law" [(.lst (ns.map .int), .sh)] = .ret (.bl true) lv outs) : PySem.Challenge.rw_swapstars_k10_least_rows_known.Holds := by
  w_on; o_law
  refine HandSHeadRun.head_any (r := R) (q := PySem.W.view R.prog [20]) (H := hk) (ob := ob) (M := 2000) (loose := loose) (d := HandSHeadRun.topDef R.prog 20) (kwd := []) ob_eq
    (by kernel_rfl) (fun s => by kernel_rfl) run (by kernel_rfl) (by kernel_rfl) (by kernel_rfl) (by rfl) (by first | assumption | decide +kernel) (by decide +kernel) ⟨rfl, rfl, rfl, rfl, rfl, by decide +kernel⟩ ?hw ?hc
  case hw => w_witness2
  case hc =>
    refine walkV (l := PySem.Challenge.rw_swapstars_k10_least_rows_known) (n := 63) (k := k + 1) (x := "_law_script") (nm := "law") (fs := fns) (cv := fun _ => .none) rfl (by decide) (by kernel_rfl) hr ?F law
    intro w mg fa0 h Y G hmg0
    obtain ⟨K, KX, c⟩ := Y
    have hmg : mg ("law" : Str) = some (.ref fa0) := by
      have e : (HandSHeadRun.topDef R.prog 20).name = ("law" : Str) := by kernel_rfl
      rw [← e]
      exact hmg0
    obtain ⟨fd, F⟩ := c.says.def_ 17 (d := dd "law" 20) rfl
    have e := hmg.symm.trans (He.glo_ok KX G (c.says.fact 17 (f := .glo "law") rfl))
    cases e
    have b := FunD.bindsA (ps := ["_law_script"]) F fun _ _ _ _ _ _ us hl => match us, hl with | [_], _ => rfl
    have hn : (fns.map (·.name)).Nodup := by decide +kernel
    refine ⟨K, fd, KX, fun a o ho => noLst_ok c.noL ho, fun s v => b s [v] rfl, fun base KB GB => ?_⟩
    exact fn_ok (d := f_law) hn (by simp only [fns, List.mem_cons, List.not_mem_nil, or_false]; simp) F (by decide +kernel) (frees KX G c) (gis KX G c) (gss KX G c) (fn_all hn (stands KX G c) (frees KX G c) (gis KX G c) (gss KX G c) k)

end K10
end VI
namespace VI
open PySem PySem.Spec PyProof.Rows L2
/-! ### more of the language, for reckoning -/
section
variable (cs : CS) (e : Env) (a b c : E) (i : Nat)
/-! while -/
def whlT (c : E) : Env → R Bool := fun e1 => tst (evalE cs c e1)
def whlF (b : Ss) : Env → Fl := fun e1 => execs cs b e1
@[simp] theorem ex_whl (b : Ss) : exec cs (.whl c b) e = whlL (whlT cs c) (whlF cs b) turns e := by rw [exec] <;> rfl
/-- a while: I m at m steps before the end at most -/
theorem whlL_run {t : Env → R Bool} {f : Env → Fl} (I : Nat → Env → Prop) (Post : Env → Prop) (h : ∀ m e, I m e → (∃ e1, t e = .ok false e1 ∧ Post e1) ∨ (∃ e1 e2 m', m' < m ∧ t e = .ok true e1 ∧ f e1 = .nx e2 ∧ I m' e2)) :
    ∀ n m e, I m e → m < n → ∃ e', whlL t f n e = .nx e' ∧ Post e'
  | 0, m, e, hi, hn => by omega
  | n + 1, m, e, hi, hn => by
    rcases h m e hi with ⟨e1, h1, h2⟩ | ⟨e1, e2, m', h1, h2, h3, h4⟩
    · exact ⟨e1, by unfold whlL; rw [h1]; rfl, h2⟩
    · obtain ⟨e', h5, h6⟩ := whlL_run I Post h n m' e2 h4 (by omega)
      refine ⟨e', ?_, h6⟩
      unfold whlL
      rw [h2]
      show (if (true : Bool) = true then (match f e1 with
        | .nx e2 => whlL t f n e2
        | .brk e2 => .nx e2
        | r => r) else .nx e1) = _
      rw [if_pos rfl, h3]
      exact h5
/-! name += int -/
def augD (i : Nat) (k : Int) (e1 : Env) : Option D → Fl
  | some (.int j) => if i < e1.length then .nx (e1.set i (.own (.int (k + j)) .full)) else .stk
  | _ => .stk
@[simp] theorem augD_i (k j : Int) : augD i k e (some (.int j)) = if i < e.length then .nx (e.set i (.own (.int (k + j)) .full)) else .stk := rfl
def augS (i : Nat) (a : E) (e : Env) : Slot → Fl
  | .own (.int k) _ => (evalE cs a e).fl fun y e1 => augD i k e1 (deref e1 y)
  | _ => .stk
@[simp] theorem augS_i (k : Int) (l : Lv) : augS cs i a e (.own (.int k) l) = (evalE cs a e).fl fun y e1 => augD i k e1 (deref e1 y) := rfl
@[simp] theorem ex_aug : exec cs (.aug i a) e = augS cs i a e (gt e i) := by
  rw [exec]
  cases gt e i with
  | none => rfl
  | own d l => cases d <;> first | rfl | (dsimp only [augS]; congr 1; funext y e1; cases deref e1 y with | none => rfl | some d => cases d <;> rfl)
/-! slices -/
def slcD (x : VI.X) (l h : Option Int) (e : Env) : Option D → R VI.X
  | some (.str s) => if s.length ≤ sizeLine then .ok (im (.str (cutS s l h))) e else .stk
  | some (.lst _) => (kids e x).bind fun p e1 => .ok (mkL (cutD p.1 l h) p.2) e1
  | some (.tup _) => (kids e x).bind fun p e1 => .ok (mkT (cutD p.1 l h) p.2) e1
  | _ => .stk
@[simp] theorem slcX_def (x : VI.X) (l h : Option Int) : slcX x l h e = slcD x l h e (deref e x) := by
  unfold slcX slcD
  cases deref e x with
  | none => rfl
  | some d => cases d <;> rfl
@[simp] theorem slcD_l (x : VI.X) (l h : Option Int) (ds : List D) : slcD x l h e (some (.lst ds)) = (kids e x).bind fun p e1 => .ok (mkL (cutD p.1 l h) p.2) e1 := rfl
@[simp] theorem slcD_t (x : VI.X) (l h : Option Int) (ds : List D) : slcD x l h e (some (.tup ds)) = (kids e x).bind fun p e1 => .ok (mkT (cutD p.1 l h) p.2) e1 := rfl
@[simp] theorem ev_slc (lo hi : Eo) : evalE cs (.slc a lo hi) e = (evalE cs a e).bind fun x e1 => (evalO cs lo e1).bind fun l e2 => (evalO cs hi e2).bind fun h e3 => slcX x l h e3 := by rw [evalE] <;> rfl
theorem cutD_map {α β : Type} (f : α → β) (xs : List α) (l h : Option Int) : cutD (xs.map f) l h = (cutD xs l h).map f := by
  unfold cutD
  rw [List.length_map, List.map_take, List.map_drop]
theorem cutD_to {α : Type} (xs : List α) (k : Nat) : cutD xs none (some (k : Int)) = xs.take k := by
  unfold cutD
  rw [HT.sIx_none, HT.sIx_nat, List.drop_zero, Nat.sub_zero]
  by_cases h : k ≤ xs.length
  · rw [Nat.min_eq_left h]
  · rw [Nat.min_eq_right (by omega), List.take_of_length_le (Nat.le_refl _), List.take_of_length_le (by omega)]
theorem cutD_from {α : Type} (xs : List α) (k : Nat) : cutD xs (some (k : Int)) none = xs.drop k := by
  unfold cutD
  rw [HT.sIx_none, HT.sIx_nat]
  by_cases h : k ≤ xs.length
  · rw [Nat.min_eq_left h, List.take_of_length_le (by rw [List.length_drop]; exact Nat.le_refl _)]
  · rw [Nat.min_eq_right (by omega), List.drop_of_length_le (Nat.le_refl _), List.drop_of_length_le (by omega), List.take_nil]
theorem cutD_mid {α : Type} (xs : List α) (j k : Nat) : cutD xs (some (j : Int)) (some (k : Int)) = (xs.drop j).take (k - j) := by
  unfold cutD
  rw [HT.sIx_nat, HT.sIx_nat]
  by_cases h : j ≤ xs.length
  · rw [Nat.min_eq_left h]
    by_cases h2 : k ≤ xs.length
    · rw [Nat.min_eq_left h2]
    · rw [Nat.min_eq_right (by omega), List.take_of_length_le (by rw [List.length_drop]; exact Nat.le_refl _), List.take_of_length_le (by rw [List.length_drop]; omega)]
  · rw [Nat.min_eq_right (show xs.length ≤ j by omega), List.drop_of_length_le (Nat.le_refl _), List.drop_of_length_le (by omega), List.take_nil, List.take_nil]
/-! changes of a slot's list -/
def clrD (i : Nat) (e : Env) : Slot → Fl
  | .own (.lst ds) lv => if lv = .sh then .stk else .nx (e.set i (.own (.lst []) .full))
  | _ => .stk
@[simp] theorem clrD_l (ds : List D) (lv : Lv) : clrD i e (.own (.lst ds) lv) = if lv = .sh then .stk else .nx (e.set i (.own (.lst []) .full)) := rfl
@[simp] theorem ex_clr : exec cs (.clr i) e = clrD i e (gt e i) := by
  rw [exec]
  cases gt e i with
  | none => rfl
  | own d l => cases d <;> rfl
def extD (i : Nat) (p : List D × Lv) (e2 : Env) : Slot → Fl
  | .own (.lst ds) lv => if lv ≠ Lv.sh ∧ ds.length + p.1.length ≤ sizeLine then .nx (e2.set i (.own (.lst (ds ++ p.1)) (addLv lv p.2))) else .stk
  | _ => .stk
@[simp] theorem extD_l (p : List D × Lv) (ds : List D) (lv : Lv) : extD i p e (.own (.lst ds) lv) = if lv ≠ Lv.sh ∧ ds.length + p.1.length ≤ sizeLine then .nx (e.set i (.own (.lst (ds ++ p.1)) (addLv lv p.2))) else .stk := rfl
def extK (x : VI.X) (e1 : Env) : Option D → R (List D × Lv)
  | some (.lst _) => kids e1 x
  | _ => .stk
@[simp] theorem extK_l (x : VI.X) (ds : List D) : extK x e (some (.lst ds)) = kids e x := rfl
@[simp] theorem ex_ext : exec cs (.ext i a) e = ifL ((evalE cs a e).fl fun x e1 => (extK x e1 (deref e1 x)).fl fun p e2 => extD i p e2 (gt e2 i)) (gt e i) := by
  rw [exec]
  cases gt e i with
  | none => rfl
  | own d l =>
    cases d <;> rfl
def insD (i : Nat) (j : Int) (p : D × Lv) (e3 : Env) : Slot → Fl
  | .own (.lst ds) lv => if lv ≠ Lv.sh ∧ ds.length < sizeLine ∧ 0 ≤ j ∧ j < 2 ^ 63 then .nx (e3.set i (.own (.lst (insAt ds j.toNat p.1)) (addLv lv p.2))) else .stk
  | _ => .stk
@[simp] theorem insD_l (j : Int) (p : D × Lv) (ds : List D) (lv : Lv) : insD i j p e (.own (.lst ds) lv) = if lv ≠ Lv.sh ∧ ds.length < sizeLine ∧ 0 ≤ j ∧ j < 2 ^ 63 then .nx (e.set i (.own (.lst (insAt ds j.toNat p.1)) (addLv lv p.2))) else .stk := rfl
def insN (i : Nat) (a : E) (e1 : Env) : Option D → Fl
  | some (.int j) => (evalE cs a e1).fl fun x e2 => (use e2 x).fl fun p e3 => insD i j p e3 (gt e3 i)
  | _ => .stk
@[simp] theorem insN_i (j : Int) : insN cs i a e (some (.int j)) = (evalE cs a e).fl fun x e2 => (use e2 x).fl fun p e3 => insD i j p e3 (gt e3 i) := rfl
@[simp] theorem ex_ins (k : E) : exec cs (.ins i k a) e = ifL ((evalE cs k e).fl fun y e1 => insN cs i a e1 (deref e1 y)) (gt e i) := by
  rw [exec]
  cases gt e i with
  | none => rfl
  | own d l =>
    cases d <;> rfl
/-! own loops -/
def forOF (b : Ss) : Env → Fl := fun e1 => execs cs b e1
def forOS (h : Sh) (i : Nat) (b : Ss) (e : Env) : Slot → Fl
  | .own (.lst ds) .full => (forOL h (forOF cs b) 0 ds (e.set i .none)).fl fun r e1 => .nx (e1.set i (.own (.lst r) .full))
  | _ => .stk
@[simp] theorem forOS_o (h : Sh) (b : Ss) (ds : List D) : forOS cs h i b e (.own (.lst ds) .full) = (forOL h (forOF cs b) 0 ds (e.set i .none)).fl fun r e1 => .nx (e1.set i (.own (.lst r) .full)) := rfl
@[simp] theorem ex_forO (h : Sh) (b : Ss) : exec cs (.forO h i b) e = forOS cs h i b e (gt e i) := by
  rw [exec]
  cases gt e i with
  | none => rfl
  | own d l => cases d <;> cases l <;> rfl
theorem forOL_inv {β : Type} {h : Sh} {f : Env → Fl} (g : β → D) (g' : Nat → β → D) (I : Nat → Env → Prop) : ∀ (xs : List β) (j : Nat) (e : Env), I j e →
    (∀ j x e, x ∈ xs → I j e → ∃ e1 e2, bindG h.g (h.item j (g x)) .full e = some e1 ∧ f e1 = .nx e2 ∧ h.back (g x) e2 = some (g' j x) ∧ I (j + 1) (e2.set h.t .none)) →
    ∃ e', forOL h f j (xs.map g) e = .ok ((xs.zipIdx j).map fun p => g' p.2 p.1) e' ∧ I (j + xs.length) e'
  | [], j, e, hi, _ => ⟨e, rfl, hi⟩
  | x :: xs, j, e, hi, hs => by
    obtain ⟨e1, e2, h1, h2, h3, h4⟩ := hs j x e List.mem_cons_self hi
    obtain ⟨e', h5, h6⟩ := forOL_inv g g' I xs (j + 1) _ h4 fun j y e hy => hs j y e (List.mem_cons_of_mem _ hy)
    refine ⟨e', ?_, by rw [List.length_cons]; have : j + (xs.length + 1) = j + 1 + xs.length := by omega
                       rw [this]; exact h6⟩
    rw [List.map_cons]
    unfold forOL
    rw [h1]
    dsimp only
    rw [h2]
    dsimp only
    rw [h3]
    dsimp only
    rw [h5]; rfl
/-! chains, is, walks -/
def ch2T (p : Cm) (y : VI.X) (c : E) (e3 : Env) : VI.X → R VI.X
  | .tmp (.bl true) _ => (evalE cs c e3).bind fun w e4 => cmpX p y w e4
  | .tmp (.bl false) _ => .ok (im (.bl false)) e3
  | _ => .stk
@[simp] theorem ch2T_b (p : Cm) (y : VI.X) (t : Bool) (l : Lv) : ch2T cs p y c e (.tmp (.bl t) l) = if t then (evalE cs c e).bind fun w e4 => cmpX p y w e4 else .ok (im (.bl false)) e := by cases t <;> rfl
@[simp] theorem ev_ch2 (o p : Cm) : evalE cs (.ch2 o p a b c) e = (evalE cs a e).bind fun x e1 => (evalE cs b e1).bind fun y e2 => (cmpX o x y e2).bind fun z e3 => ch2T cs p y c e3 z := by
  rw [evalE] <;> rfl
def iscO (pos : Bool) (e : Env) : Option D → Option D → R VI.X
  | some d, some k => ofO ((iscD pos d k).map fun b => im (.bl b)) e
  | _, _ => .stk
@[simp] theorem iscO_s (pos : Bool) (d k : D) : iscO pos e (some d) (some k) = ofO ((iscD pos d k).map fun b => im (.bl b)) e := rfl
@[simp] theorem ev_isc (pos : Bool) : evalE cs (.isc pos a c) e = (evalE cs a e).bind fun x e1 => (evalE cs c e1).bind fun y e2 => iscO pos e2 (deref e2 x) (deref e2 y) := by
  rw [evalE] <;> rfl
@[simp] theorem iscD_bb (pos x y : Bool) : iscD pos (.bl x) (.bl y) = some (if pos then decide (x = y) else !decide (x = y)) := rfl
@[simp] theorem iscD_nn (pos : Bool) : iscD pos .non .non = some pos := rfl
@[simp] theorem iscD_in (pos : Bool) (k : Int) : iscD pos (.int k) .non = some (!pos) := rfl
@[simp] theorem iscD_ln (pos : Bool) (k : List D) : iscD pos (.lst k) .non = some (!pos) := rfl
@[simp] theorem iscD_tn (pos : Bool) (k : List D) : iscD pos (.tup k) .non = some (!pos) := rfl
@[simp] theorem iscD_sn (pos : Bool) (k : Str) : iscD pos (.str k) .non = some (!pos) := rfl
@[simp] theorem iscD_bn (pos : Bool) (k : Bool) : iscD pos (.bl k) .non = some (!pos) := rfl
def hidS (i : Nat) (e : Env) : Slot → R (List (D × Lv) × Option (Nat × Slot))
  | .own (.lst ds) l => if l = .sh then .ok (ds.map fun d => (d, if immL ds then .full else .sh), none) e else
      if immL ds then .ok (ds.map fun d => (d, .full), some (i, .own (.lst ds) l)) (e.set i .none)
      else .ok (ds.map fun d => (d, .sh), some (i, .own (.lst ds) .top)) (e.set i .none)
  | _ => .stk
@[simp] theorem hidS_o (ds : List D) (l : Lv) : hidS i e (.own (.lst ds) l) = if l = .sh then .ok (ds.map fun d => (d, if immL ds then .full else .sh), none) e else
      if immL ds then .ok (ds.map fun d => (d, .full), some (i, .own (.lst ds) l)) (e.set i .none)
      else .ok (ds.map fun d => (d, .sh), some (i, .own (.lst ds) .top)) (e.set i .none) := rfl
@[simp] theorem evi_hid : evalI cs (.hid i) e = hidS i e (gt e i) := by
  rw [evalI]
  cases gt e i with
  | none => rfl
  | own d l => cases d <;> rfl
@[simp] theorem evi_rvd : evalI cs (.rvd a) e = (evalE cs a e).bind fun x e1 => (use e1 x).bind fun p e2 => ofO ((walkS p.1 p.2).map fun ps => (ps.reverse, none)) e2 := by rw [evalI] <;> rfl
@[simp] theorem frestore_nx (e1 : Env) (j : Nat) (s : Slot) : Fl.restore (.nx e1) (some (j, s)) = .nx (e1.set j s) := rfl
@[simp] theorem frestore_ret (d : D) (l : Lv) (e1 : Env) (j : Nat) (s : Slot) : Fl.restore (.ret d l e1) (some (j, s)) = .ret d l (e1.set j s) := rfl
@[simp] theorem restore_some (e1 : Env) (j : Nat) (s : Slot) : VI.restore e1 (some (j, s)) = e1.set j s := rfl
/-! pop -/
def popS (i : Nat) (o : Option Int) (e1 : Env) : Slot → R VI.X
  | .own (.lst ds) l => if l = .sh then .stk else
    (match seqIndex? (o.getD (-1)) ds.length with
    | some j => match ds[j]? with
      | some d => if -(2 ^ 63) ≤ o.getD (-1) ∧ o.getD (-1) < 2 ^ 63 then .ok (.tmp d (if imm d then .full else l.pred)) (e1.set i (.own (.lst (ds.eraseIdx j)) l)) else .stk
      | none => .stk
    | none => .stk)
  | _ => .stk
def popK (i : Nat) (k : Eo) (e : Env) : Slot → R VI.X
  | .own (.lst _) _ => (evalO cs k e).bind fun x e1 => popS i x e1 (gt e1 i)
  | _ => .stk
@[simp] theorem popK_l (k : Eo) (ds : List D) (l : Lv) : popK cs i k e (.own (.lst ds) l) = (evalO cs k e).bind fun x e1 => popS i x e1 (gt e1 i) := rfl
@[simp] theorem ev_pop (k : Eo) : evalE cs (.pop i k) e = popK cs i k e (gt e i) := by
  rw [evalE]
  cases gt e i with
  | none => rfl
  | own d l =>
    cases d <;> rfl
theorem map_erase {α β : Type} (f : α → β) : ∀ (xs : List α) (k : Nat), (xs.map f).eraseIdx k = (xs.eraseIdx k).map f
  | [], _ => rfl
  | x :: xs, 0 => rfl
  | x :: xs, k + 1 => by
    rw [List.map_cons, List.eraseIdx_cons_succ, List.eraseIdx_cons_succ, List.map_cons, map_erase f xs k]
/-- an own list of ints loses the item at k -/
theorem popS_at {xs : List Int} {l : Lv} {k : Nat} (hl : l ≠ .sh) (hk : k < xs.length) (hb : xs.length ≤ 1000000) : popS i (some (k : Int)) e (.own (.lst (xs.map .int)) l) = .ok (.tmp (.int xs[k]) .full) (e.set i (.own (.lst ((xs.eraseIdx k).map .int)) l)) := by
  have h1 : seqIndex? (k : Int) xs.length = some k := by
    refine (ixN_seq ?_).1
    unfold ixN
    rw [if_pos (by omega), if_pos (by omega), Int.toNat_natCast]
  unfold popS
  dsimp only
  rw [if_neg hl, Option.getD_some, List.length_map, h1]
  dsimp only
  rw [List.getElem?_map, List.getElem?_eq_getElem hk]
  dsimp only [Option.map]
  rw [if_pos (by constructor <;> omega), map_erase]; rfl
end
end VI
namespace VI
open PySem PySem.Spec PyProof.Rows L2
def ch3T (cs : CS) (p q : Cm) (y : VI.X) (c d : E) (e3 : Env) : VI.X → R VI.X
  | .tmp (.bl true) _ => (evalE cs c e3).bind fun w e4 => (cmpX p y w e4).bind fun z2 e5 => ch2T cs q w d e5 z2
  | .tmp (.bl false) _ => .ok (im (.bl false)) e3
  | _ => .stk
@[simp] theorem ch3T_b (cs : CS) (e : Env) (p q : Cm) (y : VI.X) (c d : E) (t : Bool) (l : Lv) : ch3T cs p q y c d e (.tmp (.bl t) l) = if t then (evalE cs c e).bind fun w e4 => (cmpX p y w e4).bind fun z2 e5 => ch2T cs q w d e5 z2 else .ok (im (.bl false)) e := by cases t <;> rfl
@[simp] theorem ev_ch3 (cs : CS) (e : Env) (a b c d : E) (o p q : Cm) : evalE cs (.ch3 o p q a b c d) e = (evalE cs a e).bind fun x e1 => (evalE cs b e1).bind fun y e2 => (cmpX o x y e2).bind fun z e3 => ch3T cs p q y c d e3 z := by
  rw [evalE] <;> rfl
theorem atN {α : Type} (f : α → D) {xs : List α} {k : Nat} (h : k < xs.length) : atI (xs.map f) (k : Int) = some (f xs[k]) := by
  unfold atI ixN
  rw [List.length_map, if_pos (by omega), if_pos (by omega)]
  show (xs.map f)[(k : Int).toNat]? = _
  rw [List.getElem?_map, Int.toNat_natCast, List.getElem?_eq_getElem h]; rfl
theorem atN1 {α : Type} (f : α → D) {xs : List α} {k : Nat} (h : k + 1 < xs.length) : atI (xs.map f) ((k : Int) + 1) = some (f xs[k + 1]) := by
  have := atN f h
  rwa [Int.natCast_add] at this
theorem cutD_from2 {α : Type} (xs : List α) (k : Nat) : cutD xs (some ((k : Int) + 1 + 1)) none = xs.drop (k + 2) := by
  have := cutD_from xs (k + 2)
  rwa [show (((k + 2 : Nat)) : Int) = (k : Int) + 1 + 1 by omega] at this
/-! loops over told lists, turn by turn -/
def nxtK (r : Fl) [c : KnS] : Fl := match r with
  | .nx e1 => c.k e1
  | .brk e1 => .nx e1
  | r => r
@[simp] theorem nxtK_nx (e : Env) (f : Env → Fl) : @nxtK (.nx e) ⟨f⟩ = f e := rfl
@[simp] theorem nxtK_ret (d : D) (l : Lv) (e : Env) (f : Env → Fl) : @nxtK (.ret d l e) ⟨f⟩ = .ret d l e := rfl
@[simp] theorem nxtK_brk (e : Env) (f : Env → Fl) : @nxtK (.brk e) ⟨f⟩ = .nx e := rfl
theorem forL_consK (f : D × Lv → Env → Fl) (p : D × Lv) (ps : List (D × Lv)) (e : Env) : forL f (p :: ps) e = @nxtK (f p e) ⟨fun e1 => forL f ps e1⟩ := by
  rw [forL_cons]
  unfold nxtK
  cases f p e <;> rfl
def bndK (o : Option Env) [c : KnS] : Fl := match o with
  | some e3 => c.k e3
  | none => .stk
@[simp] theorem bndK_some (e : Env) (f : Env → Fl) : @bndK (some e) ⟨f⟩ = f e := rfl
theorem forF_K (cs : CS) (g : G) (b : Ss) (q : D × Lv) (e : Env) : forF cs g b q e = @bndK (bindG g q.1 q.2 e) ⟨fun e3 => execs cs b e3⟩ := rfl
namespace C
/-! ### exchanges led past one another -/
/-- an exchange of the things to which another one leads those of it -/
def carr (p q : Int × Int) : Int × Int := (if ledT q p.2 < ledT q p.1 then ledT q p.2 else ledT q p.1, if ledT q p.1 < ledT q p.2 then ledT q p.2 else ledT q p.1)
def Carried (cs : CS) : Prop := cs.io "carried" = [false, false] ∧ ∀ p q : Int × Int, cs.run "carried" [(tup2 p, .sh), (tup2 q, .sh)] = .ret (tup2 (carr p q)) .full [.none, .none]
theorem carried_ok {fs : List Fn} (h : Has fs f_carried) {k : Nat} (hl : LedThing (csOf fs k)) : Carried (csOf fs (k + 1)) := by
  refine ⟨h.io _, fun p q => ?_⟩
  rw [show ("carried" : Str) = f_carried.name from rfl, h.run _ rfl (by decide)]
  generalize csOf fs k = cs at hl
  obtain ⟨iL, rL⟩ := hl
  have r1 := rL q p.1
  have r2 := rL q p.2
  unfold f_carried carr
  unfold tup2 at *
  simp -implicitDefEqProofs [atI, ixN, iL, r1, r2]
def wayS (b : Bool) : Str := if b then "forth" else "back"
theorem way_eq (w : Bool) : cmpD .eq (.str (wayS w)) (.str "forth") = some w := by cases w <;> decide +kernel
def pairM (p q : Int × Int) (w : Bool) : List (Int × Int) := if w then [q, carr p q] else [carr q p, p]
def PairMoved (cs : CS) : Prop := cs.io "pair_moved" = [false, false, false] ∧ ∀ (p q : Int × Int) (w : Bool), cs.run "pair_moved" [(tup2 p, .sh), (tup2 q, .sh), (.str (wayS w), .sh)] = .ret (lstP (pairM p q w)) .full [.none, .none, .none]
theorem pairMoved_ok {fs : List Fn} (h : Has fs f_pair_moved) {k : Nat} (hl : Carried (csOf fs k)) : PairMoved (csOf fs (k + 1)) := by
  refine ⟨h.io _, fun p q w => ?_⟩
  rw [show ("pair_moved" : Str) = f_pair_moved.name from rfl, h.run _ rfl (by decide)]
  generalize csOf fs k = cs at hl
  obtain ⟨iL, rL⟩ := hl
  have r1 := rL p q
  have r2 := rL q p
  unfold f_pair_moved pairM lstP
  cases w
  · simp -implicitDefEqProofs [iL, r2, way_eq]
  · simp -implicitDefEqProofs [iL, r1, way_eq]
def movedR (row : List (Int × Int)) (j : Nat) (w : Bool) : List (Int × Int) := row.take j ++ pairM (row.getD j (0, 0)) (row.getD (j + 1) (0, 0)) w ++ row.drop (j + 2)
def Moved (cs : CS) : Prop := cs.io "moved" = [false, false, false] ∧ ∀ (row : List (Int × Int)) (j : Nat) (w : Bool), j + 1 < row.length → row.length ≤ 1000 → cs.run "moved" [(lstP row, .sh), (.int ((j : Int) + 1), .sh), (.str (wayS w), .sh)] = .ret (lstP (movedR row j w)) .full [.none, .none, .none]
theorem pairM_len (p q : Int × Int) (w : Bool) : (pairM p q w).length = 2 := by cases w <;> rfl
theorem getD_at {α : Type} {xs : List α} {k : Nat} (h : k < xs.length) (d : α) : xs.getD k d = xs[k] := by
  rw [List.getD_eq_getElem?_getD, List.getElem?_eq_getElem h]; rfl
theorem way_in (w : Bool) : cmpD .notin (.str (wayS w)) (.tup [.str "forth", .str "back"]) = some false := by cases w <;> decide +kernel
theorem movedR_len {row : List (Int × Int)} {j : Nat} {w : Bool} (h : j + 1 < row.length) : (movedR row j w).length = row.length := by
  unfold movedR
  simp [pairM_len]
  omega
theorem moved_ok {fs : List Fn} (h : Has fs f_moved) {k : Nat} (hl : PairMoved (csOf fs k)) : Moved (csOf fs (k + 1)) := by
  refine ⟨h.io _, fun row j w hj hn => ?_⟩
  rw [show ("moved" : Str) = f_moved.name from rfl, h.run _ rfl (by decide)]
  generalize csOf fs k = cs at hl
  obtain ⟨iL, rL⟩ := hl
  have r1 := rL row[j] row[j + 1] w
  have hm := movedR_len (w := w) hj
  unfold movedR at hm ⊢
  rw [getD_at (by omega : j < row.length), getD_at hj] at *
  unfold lstP at *
  have a0 := atN tup2 (xs := row) (k := j) (by omega)
  have a1 := atN1 tup2 (xs := row) (k := j) hj
  have hc : (1 : Int) ≤ (j : Int) + 1 := by omega
  have hc2 : (j : Int) + 1 < row.length := by omega
  have s1 : j + 2 ≤ sizeLine := line0 (by omega)
  have s2 : j + 2 + (row.length - (j + 2)) ≤ sizeLine := line0 (by omega)
  have mj : min j row.length = j := Nat.min_eq_left (by omega)
  unfold f_moved
  simp -implicitDefEqProofs [iL, r1, way_in, a0, a1, hc, hc2, cutD_map, cutD_to, cutD_from2, opLL, pairM_len, mj, s1, s2]
/-- the law's own -/
def LawMoved (cs : CS) : Prop := cs.io "_law_moved" = [false, false, false] ∧ ∀ (row : List (Int × Int)) (j : Nat) (w : Bool), j + 1 < row.length → row.length ≤ 1000 → (∀ p ∈ row, p.1 < p.2) → cs.run "_law_moved" [(lstP row, .sh), (.int ((j : Int) + 1), .sh), (.str (wayS w), .sh)] = .ret (lstP (movedR row j w)) .full [.none, .none, .none]
theorem lawMoved_ok {fs : List Fn} (h : Has fs f__law_moved) (k : Nat) : LawMoved (csOf fs (k + 1)) := by
  refine ⟨h.io _, fun row j w hj hn hr => ?_⟩
  rw [show ("_law_moved" : Str) = f__law_moved.name from rfl, h.run _ rfl (by decide)]
  unfold movedR
  rw [getD_at (by omega : j < row.length), getD_at hj]
  have r1 := hr row[j] (List.getElem_mem _)
  have r2 := hr row[j + 1] (List.getElem_mem _)
  unfold lstP at *
  have a0 := atN tup2 (xs := row) (k := j) (by omega)
  have a1 := atN1 tup2 (xs := row) (k := j) hj
  have s1 : j + 2 ≤ sizeLine := line0 (by omega)
  have s2 : j + 2 + (row.length - (j + 2)) ≤ sizeLine := line0 (by omega)
  have mj : min j row.length = j := Nat.min_eq_left (by omega)
  generalize row[j] = p at *
  generalize row[j + 1] = q at *
  obtain ⟨a, b⟩ := p
  obtain ⟨c, d⟩ := q
  have t1 : ∀ p : Int × Int, tup2 p = .tup [.int p.1, .int p.2] := fun _ => rfl
  unfold f__law_moved pairM
  cases w
  · simp -implicitDefEqProofs [way_eq, a0, a1, cutD_map, cutD_to, cutD_from2, opLL, mj, s1, s2, swap_get _ r1, carr, t1]
  · simp -implicitDefEqProofs [way_eq, a0, a1, cutD_map, cutD_to, cutD_from2, opLL, mj, s1, s2, swap_get _ r2, carr, t1]
/-! ### what it does to orders -/
theorem led_inv (q : Int × Int) (g : Int) : ledT q (ledT q g) = g := by
  unfold ledT
  split <;> split <;> (try split) <;> omega
theorem led_carr {p q : Int × Int} (hp : p.1 < p.2) (g : Int) : ledT (carr p q) (ledT q g) = ledT q (ledT p g) := by
  obtain ⟨a, b⟩ := p
  obtain ⟨c, d⟩ := q
  unfold carr ledT
  dsimp only at *
  repeat' split
  all_goals first | omega | skip
theorem carr_back {p q : Int × Int} (hp : p.1 < p.2) : carr (carr p q) q = p := by
  obtain ⟨a, b⟩ := p
  obtain ⟨c, d⟩ := q
  unfold carr ledT
  dsimp only at *
  rw [Prod.mk.injEq]
  constructor <;> repeat' split
  all_goals first | omega | skip
end C
end VI
namespace VI
namespace C
open PySem PySem.Spec PyProof.Rows L2
/-! ### orders -/
structure IsOrd (n : Nat) (o : List Int) : Prop where
  len : o.length = n
  nd : o.Nodup
  rg : ∀ g ∈ o, 1 ≤ g ∧ g ≤ n
theorem upTo_mem {n : Nat} {g : Int} : g ∈ C.upTo n ↔ 1 ≤ g ∧ g ≤ n := by
  unfold C.upTo rangeI
  simp only [List.mem_map, List.mem_range]
  constructor
  · rintro ⟨k, hk, rfl⟩; omega
  · rintro ⟨h1, h2⟩; exact ⟨(g - 1).toNat, by omega, by omega⟩
theorem upTo_nodup (n : Nat) : (C.upTo n).Nodup := by
  unfold C.upTo rangeI
  rw [List.nodup_iff_pairwise_ne, List.pairwise_map]
  refine List.Pairwise.imp ?_ (List.nodup_iff_pairwise_ne.mp List.nodup_range)
  intro a b h e
  omega
theorem upTo_ord (n : Nat) : IsOrd n (C.upTo n) := ⟨upTo_len n, upTo_nodup n, fun g h => upTo_mem.mp h⟩
theorem ord_perm {n : Nat} {o : List Int} (h : o.Perm (C.upTo n)) : IsOrd n o := ⟨by rw [h.length_eq, upTo_len], h.nodup_iff.mpr (upTo_nodup n), fun g hg => upTo_mem.mp (h.mem_iff.mp hg)⟩
/-- unlike numbers from 1 to n: n at most -/
theorem nodup_le : ∀ (n : Nat) (xs : List Int), xs.Nodup → (∀ x ∈ xs, 1 ≤ x ∧ x ≤ n) → xs.length ≤ n
  | 0, xs, _, h => by
    cases xs with
    | nil => simp
    | cons x r => have := h x List.mem_cons_self; omega
  | n + 1, xs, hn, h => by
    have h1 := nodup_le n (xs.erase ((n : Int) + 1)) (hn.erase _) fun x hx => by
      have h2 := h x (List.mem_of_mem_erase hx)
      have h3 : x ≠ (n : Int) + 1 := fun e => by
        subst e
        exact absurd hx (hn.not_mem_erase)
      omega
    by_cases hm : ((n : Int) + 1) ∈ xs
    · rw [List.length_erase_of_mem hm] at h1; omega
    · rw [List.erase_of_not_mem hm] at h1; omega
section
variable {n : Nat} {o : List Int}
theorem IsOrd.at (h : IsOrd n o) {g : Int} (hg : 1 ≤ g ∧ g ≤ n) : 1 ≤ nth1 o g ∧ nth1 o g ≤ n := by
  have hl := h.len
  have : nth1 o g = o[(g - 1).toNat]'(by omega) := by
    unfold nth1
    exact getD_at (by omega) 0
  rw [this]
  exact h.rg _ (List.getElem_mem _)
theorem IsOrd.inj (h : IsOrd n o) {g k : Int} (hg : 1 ≤ g ∧ g ≤ n) (hk : 1 ≤ k ∧ k ≤ n) (e : nth1 o g = nth1 o k) : g = k := by
  have hl := h.len
  unfold nth1 at e
  rw [getD_at (by omega), getD_at (by omega)] at e
  have := (List.getElem_inj h.nd).mp e
  omega
/-! ### rounds -/
/-- k steps on from g -/
def stepN (o : List Int) : Nat → Int → Int
  | 0, g => g
  | k + 1, g => stepN o k (nth1 o g)
theorem stepN_in (h : IsOrd n o) : ∀ (k : Nat) {g : Int}, 1 ≤ g ∧ g ≤ n → 1 ≤ stepN o k g ∧ stepN o k g ≤ n
  | 0, _, hg => hg
  | k + 1, _, hg => stepN_in h k (h.at hg)
theorem stepN_succ (o : List Int) : ∀ (k : Nat) (g : Int), stepN o (k + 1) g = nth1 o (stepN o k g)
  | 0, _ => rfl
  | k + 1, g => stepN_succ o k (nth1 o g)
theorem stepN_add (o : List Int) : ∀ (j k : Nat) (g : Int), stepN o (j + k) g = stepN o k (stepN o j g)
  | 0, k, g => by rw [Nat.zero_add]; rfl
  | j + 1, k, g => by rw [Nat.add_right_comm]; exact stepN_add o j k (nth1 o g)
theorem stepN_inj (h : IsOrd n o) : ∀ (k : Nat) {a b : Int}, 1 ≤ a ∧ a ≤ n → 1 ≤ b ∧ b ≤ n → stepN o k a = stepN o k b → a = b
  | 0, _, _, _, _, e => e
  | k + 1, _, _, ha, hb, e => h.inj ha hb (stepN_inj h k (h.at ha) (h.at hb) e)
/-- a step before the end of n leads home -/
theorem returns (h : IsOrd n o) {f : Int} (hf : 1 ≤ f ∧ f ≤ n) : ∃ p, 1 ≤ p ∧ p ≤ n ∧ stepN o p f = f := by
  refine Classical.byContradiction fun hc => ?_
  have nd : ((List.range (n + 1)).map fun k => stepN o k f).Nodup := by
    rw [List.nodup_iff_pairwise_ne, List.pairwise_map]
    have hp : List.Pairwise (fun a b => a < b) (List.range (n + 1)) := List.pairwise_lt_range
    refine hp.imp_of_mem fun {a b} ha hb hab e => hc ⟨b - a, by omega, by have := List.mem_range.mp hb; omega, ?_⟩
    have : b = (b - a) + a := by omega
    rw [this, stepN_add] at e
    exact (stepN_inj h a hf (stepN_in h (b - a) hf) e).symm
  have := nodup_le n _ nd fun x hx => by
    obtain ⟨k, _, rfl⟩ := List.mem_map.mp hx
    exact stepN_in h k hf
  rw [List.length_map, List.length_range] at this
  omega
/-- f is met within m steps from g -/
def Ret (o : List Int) (f : Int) : Nat → Int → Prop
  | 0, g => g = f
  | m + 1, g => g = f ∨ Ret o f m (nth1 o g)
theorem ret_of (o : List Int) (f : Int) : ∀ (m k : Nat) (g : Int), k ≤ m → stepN o k g = f → Ret o f m g
  | 0, 0, g, _, e => e
  | 0, _ + 1, _, h, _ => by omega
  | m + 1, 0, g, _, e => .inl e
  | m + 1, k + 1, g, h, e => .inr (ret_of o f m k _ (by omega) e)
theorem IsOrd.ret (h : IsOrd n o) {f : Int} (hf : 1 ≤ f ∧ f ≤ n) : Ret o f n (nth1 o f) := by
  obtain ⟨p, h1, h2, h3⟩ := returns h hf
  obtain ⟨k, rfl⟩ : ∃ k, p = k + 1 := ⟨p - 1, by omega⟩
  exact ret_of o f n k _ (by omega) h3
def cycF (o : List Int) (f : Int) : Nat → Int → List Int
  | 0, _ => []
  | m + 1, g => if g = f then [] else g :: cycF o f m (nth1 o g)
/-- the round of f -/
def cyc (o : List Int) (f : Int) : List Int := f :: cycF o f o.length (nth1 o f)
theorem cycF_end (o : List Int) (f : Int) (m : Nat) : cycF o f m f = [] := by cases m <;> simp [cycF]
theorem cycF_len (o : List Int) (f : Int) : ∀ (m : Nat) (g : Int), (cycF o f m g).length ≤ m
  | 0, _ => Nat.le_refl _
  | m + 1, g => by
    unfold cycF
    split
    · simp
    · have := cycF_len o f m (nth1 o g)
      simp; omega
theorem cyc_len (h : IsOrd n o) (f : Int) : (cyc o f).length ≤ n + 1 := by
  have := cycF_len o f o.length (nth1 o f)
  rw [h.len] at this
  unfold cyc
  rw [h.len]
  simp; omega
/-- the rounds, each from its least thing on -/
def rndStep (o : List Int) (found : List (List Int)) (k : Int) : List (List Int) := if k ∈ found.flatten then found else found ++ [cyc o k]
def rnds (o : List Int) : List (List Int) := (C.upTo o.length).foldl (rndStep o) []
end
/-! ### the runs -/
def lstL (ks : List (List Int)) : D := .lst (ks.map fun k => .lst (k.map .int))
def RoundFrom (cs : CS) : Prop := cs.io "round_from" = [false, false] ∧ ∀ (n : Nat) (o : List Int) (f : Int), IsOrd n o → n ≤ 1000 → 1 ≤ f ∧ f ≤ n → cs.run "round_from" [(tupI o, .sh), (.int f, .sh)] = .ret (.lst ((cyc o f).map .int)) .full [.none, .none]
theorem roundFrom_ok {fs : List Fn} (h : Has fs f_round_from) (k : Nat) : RoundFrom (csOf fs (k + 1)) := by
  refine ⟨h.io _, fun n o f ho hn hf => ?_⟩
  rw [show ("round_from" : Str) = f_round_from.name from rfl, h.run _ rfl (by decide)]
  have hl := ho.len
  have a0 := at1 (xs := o) (g := f) (by omega)
  unfold f_round_from tupI
  simp -implicitDefEqProofs [a0]
  have key : ∃ e', whlL (whlT (csOf fs k) (.cmp .ne (.var 3) (.var 1))) (whlF (csOf fs k) (.cons (.app 2 (.var 3)) (.cons (.asg (.nm 3) (.sub (.var 0) (.op .sub (.var 3) (.int 1)))) .nil))) turns
      [Slot.own (.tup (o.map .int)) .sh, .own (.int f) .sh, .own (.lst [.int f]) .full, .own (.int (nth1 o f)) .full] = .nx e' ∧ ∃ goal, e' = [Slot.own (.tup (o.map .int)) .sh, .own (.int f) .sh, .own (.lst ((cyc o f).map .int)) .full, .own (.int goal) .full] := by
   refine whlL_run (t := whlT (csOf fs k) (.cmp .ne (.var 3) (.var 1))) (f := whlF (csOf fs k) (.cons (.app 2 (.var 3)) (.cons (.asg (.nm 3) (.sub (.var 0) (.op .sub (.var 3) (.int 1)))) .nil)))
    (fun m e => ∃ (found : List Int) (goal : Int), e = [Slot.own (.tup (o.map .int)) .sh, .own (.int f) .sh, .own (.lst (found.map .int)) .full, .own (.int goal) .full] ∧ 1 ≤ goal ∧ goal ≤ n ∧ Ret o f m goal ∧ found ++ cycF o f m goal = cyc o f ∧ found.length + m ≤ n + 1)
    (fun e => ∃ goal, e = [Slot.own (.tup (o.map .int)) .sh, .own (.int f) .sh, .own (.lst ((cyc o f).map .int)) .full, .own (.int goal) .full]) ?step turns n
    _ ⟨[f], nth1 o f, rfl, (ho.at hf).1, (ho.at hf).2, ho.ret hf, by unfold cyc; rw [hl]; rfl, by simp; omega⟩ (by unfold turns; omega)
   case step =>
     rintro m e ⟨found, goal, rfl, g1, g2, hr, hc, hlen⟩
     by_cases hg : goal = f
     · subst hg
       refine .inl ⟨_, ?_, goal, rfl⟩
       rw [cycF_end, List.append_nil] at hc
       rw [← hc]
       unfold whlT
       simp -implicitDefEqProofs
     · refine .inr ?_
       cases m with
       | zero => exact absurd hr hg
       | succ m =>
         have hr' : Ret o f m (nth1 o goal) := by
           rcases hr with hr | hr
           · exact absurd hr hg
           · exact hr
         unfold cycF at hc
         rw [if_neg hg] at hc
         have a1 := at1 (xs := o) (g := goal) (by omega)
         have z : found.length < sizeLine := Nat.lt_of_lt_of_le (show found.length < 1001 by omega) (by rw [sizeLine_eq]; decide)
         have i1 := ho.at (g := goal) (by omega)
         refine ⟨[Slot.own (.tup (o.map .int)) .sh, .own (.int f) .sh, .own (.lst (found.map .int)) .full, .own (.int goal) .full], [Slot.own (.tup (o.map .int)) .sh, .own (.int f) .sh, .own (.lst ((found ++ [goal]).map .int)) .full, .own (.int (nth1 o goal)) .full], m, by omega, ?_, ?_, found ++ [goal], nth1 o goal, rfl, i1.1, i1.2, hr', by rw [List.append_assoc]; exact hc, by simp; omega⟩
         · unfold whlT
           simp -implicitDefEqProofs [hg]
         · unfold whlF
           simp -implicitDefEqProofs [a1, z]
  obtain ⟨e', h1, goal, h2⟩ := key
  rw [h1]
  subst h2
  simp -implicitDefEqProofs
end C
end VI
namespace VI
open PySem PySem.Spec PyProof.Rows L2
/-! ### dicts by ints -/
theorem dlook_upd (k t : Key) (d : D) : ∀ kvs : List (Key × D), (dlookK k (kvs.map fun kv => if kv.1 = t then (kv.1, d) else kv)).isSome = (dlookK k kvs).isSome
  | [] => rfl
  | (j, c) :: r => by
    rw [List.map_cons]
    by_cases h : j = t
    · rw [if_pos h]
      unfold dlookK
      by_cases h2 : j = k
      · rw [if_pos h2, if_pos h2]; rfl
      · rw [if_neg h2, if_neg h2]; exact dlook_upd k t d r
    · rw [if_neg h]
      unfold dlookK
      by_cases h2 : j = k
      · rw [if_pos h2, if_pos h2]
      · rw [if_neg h2, if_neg h2]; exact dlook_upd k t d r
theorem dlook_app (k t : Key) (d : D) : ∀ kvs : List (Key × D), (dlookK k (kvs ++ [(t, d)])).isSome = ((dlookK k kvs).isSome || decide (t = k))
  | [] => by
    show (if t = k then some d else none).isSome = _
    by_cases h : t = k
    · rw [if_pos h, decide_eq_true h]; rfl
    · rw [if_neg h, decide_eq_false h]; rfl
  | (j, c) :: r => by
    rw [List.cons_append]
    unfold dlookK
    by_cases h : j = k
    · rw [if_pos h, if_pos h]; rfl
    · rw [if_neg h, if_neg h]; exact dlook_app k t d r
theorem dlook_any (k : Key) : ∀ kvs : List (Key × D), (kvs.any fun kv => decide (kv.1 = k)) = (dlookK k kvs).isSome
  | [] => rfl
  | (j, c) :: r => by
    rw [List.any_cons]
    unfold dlookK
    by_cases h : j = k
    · rw [if_pos h]
      simp [h]
    · rw [if_neg h, dlook_any k r]
      simp [h]
theorem dlook_put (k t : Key) (d : D) (kvs : List (Key × D)) : (dlookK k (dputK t d kvs)).isSome = ((dlookK k kvs).isSome || decide (t = k)) := by
  unfold dputK
  split
  · rename_i h
    rw [dlook_upd]
    by_cases e : t = k
    · subst e
      rw [dlook_any] at h
      rw [h]; rfl
    · rw [decide_eq_false e, Bool.or_false]
  · exact dlook_app k t d kvs
theorem dput_len (t : Key) (d : D) (kvs : List (Key × D)) : (dputK t d kvs).length ≤ kvs.length + 1 := by
  unfold dputK
  split
  · rw [List.length_map]; omega
  · simp
@[simp] theorem cmpD_nk (k : Int) (kvs : List (Key × D)) : cmpD .notin (.int k) (.dK kvs) = some (!(dlookK (.inl k) kvs).isSome) := rfl
@[simp] theorem cmpD_ik (k : Int) (kvs : List (Key × D)) : cmpD .isin (.int k) (.dK kvs) = some (dlookK (.inl k) kvs).isSome := rfl
@[simp] theorem ev_dnewK (cs : CS) (e : Env) : evalE cs .dnewK e = .ok (.tmp (.dK []) .full) e := by rw [evalE]
def setKK (i : Nat) (p : D × Lv) (e3 : Env) (kvs : List (Key × D)) (lv : Lv) : Option Key → Fl
  | some k => if kvs.length < sizeLine ∧ (imm p.1 = true ∨ (kvs.map (·.1)).Nodup) then .nx (e3.set i (.own (.dK (dputK k p.1 kvs)) (addLv lv p.2))) else .stk
  | none => .stk
@[simp] theorem setKK_s (i : Nat) (p : D × Lv) (e3 : Env) (kvs : List (Key × D)) (lv : Lv) (k : Key) : setKK i p e3 kvs lv (some k) = if kvs.length < sizeLine ∧ (imm p.1 = true ∨ (kvs.map (·.1)).Nodup) then .nx (e3.set i (.own (.dK (dputK k p.1 kvs)) (addLv lv p.2))) else .stk := rfl
@[simp] theorem setD_dk (i : Nat) (p : D × Lv) (e3 : Env) (kvs : List (Key × D)) (lv : Lv) (k : D) : setD i p e3 (.own (.dK kvs) lv) (some k) = if lv = .sh then .stk else setKK i p e3 kvs lv (key1 k) := by
  show (if lv = .sh then Fl.stk else (match key1 k with
    | some k => if kvs.length < sizeLine ∧ (imm p.1 = true ∨ (kvs.map (·.1)).Nodup) then .nx (e3.set i (.own (.dK (dputK k p.1 kvs)) (addLv lv p.2))) else .stk
    | none => .stk)) = _
  unfold setKK
  rfl
theorem at_last {α : Type} (xs : List α) (x : α) : atI (xs ++ [x]) (-1) = some x := by
  unfold atI ixN
  rw [if_neg (by omega), if_pos (by simp; omega)]
  show (xs ++ [x])[(-1 + ((xs ++ [x]).length : Int)).toNat]? = _
  have : (-1 + ((xs ++ [x]).length : Int)).toNat = xs.length := by rw [List.length_append]; simp; omega
  rw [this, List.getElem?_append_right (Nat.le_refl _), Nat.sub_self]; rfl
theorem line5 {n : Nat} (h : n ≤ 100000) : n < sizeLine := by rw [sizeLine_eq]; omega
namespace C
theorem mem_flat {k : Int} {found : List (List Int)} {c : List Int} : k ∈ (found ++ [c]).flatten ↔ k ∈ found.flatten ∨ k ∈ c := by simp
def LawRounds (cs : CS) : Prop := cs.io "_law_rounds" = [false] ∧ ∀ (n : Nat) (o : List Int), IsOrd n o → n ≤ 100 → cs.run "_law_rounds" [(tupI o, .sh)] = .ret (lstL (rnds o)) .full [.none]
theorem rnds_snoc (o : List Int) (done : List Int) (k : Int) : (done ++ [k]).foldl (rndStep o) [] = rndStep o (done.foldl (rndStep o) []) k := by rw [List.foldl_append]; rfl
theorem rnd_size {n : Nat} {o : List Int} (h : IsOrd n o) : ∀ done : List Int, (done.foldl (rndStep o) []).length ≤ done.length ∧ (done.foldl (rndStep o) []).flatten.length ≤ done.length * (n + 1) := by
  intro done
  suffices hh : ∀ (done : List Int) (acc : List (List Int)), (done.foldl (rndStep o) acc).length ≤ acc.length + done.length ∧ (done.foldl (rndStep o) acc).flatten.length ≤ acc.flatten.length + done.length * (n + 1) by
    have := hh done []
    simpa using this
  intro done
  induction done with
  | nil => intro acc; simp
  | cons k ks ih =>
    intro acc
    have h1 := ih (rndStep o acc k)
    have h2 : (rndStep o acc k).length ≤ acc.length + 1 ∧ (rndStep o acc k).flatten.length ≤ acc.flatten.length + (n + 1) := by
      unfold rndStep
      split
      · omega
      · have := cyc_len h k
        simp only [List.length_append, List.flatten_append, List.flatten_cons, List.flatten_nil, List.append_nil, List.length_singleton]
        omega
    rw [List.foldl_cons, List.length_cons, Nat.add_mul]
    omega
theorem lawRounds_ok {fs : List Fn} (h : Has fs f__law_rounds) (k : Nat) : LawRounds (csOf fs (k + 1)) := by
  refine ⟨h.io _, fun n o ho hn => ?_⟩
  rw [show ("_law_rounds" : Str) = f__law_rounds.name from rfl, h.run _ rfl (by decide)]
  have hl := ho.len
  have hr := range_up 1 ((n : Int) + 1) (by omega)
  rw [show ((n : Int) + 1 - 1).toNat = n by omega] at hr
  generalize csOf fs k = cs
  unfold f__law_rounds tupI lstL
  simp -implicitDefEqProofs [hl, hr]
  refine forL_end ((fun d => (d, Lv.full)) ∘ D.int) (fun done e => ∃ s3 s4, e = [Slot.own (.tup (o.map .int)) .sh, .own (.lst ((done.foldl (rndStep o) []).map fun k => .lst (k.map .int))) .full, .own (.lst ((done.foldl (rndStep o) []).flatten.map .int)) .full, s3, s4]) (rangeI 1 n 1) ⟨_, _, rfl⟩ ?hs ?hk
  case hk =>
    rintro e ⟨s3, s4, rfl⟩
    have : rangeI 1 n 1 = C.upTo o.length := by rw [hl]; rfl
    simp -implicitDefEqProofs [this]
    rfl
  rintro done f rest e hd ⟨s3, s4, rfl⟩
  have hf : 1 ≤ f ∧ f ≤ n := upTo_mem.mp (by show f ∈ rangeI 1 n 1; rw [← hd]; simp)
  have hdl : done.length < n := by
    have := congrArg List.length hd
    simp [rangeI] at this
    omega
  obtain ⟨z1, z2⟩ := rnd_size ho done
  have hmul : done.length * (n + 1) ≤ 100 * 101 := Nat.mul_le_mul (by omega) (by omega)
  have hcl := cyc_len ho f
  rw [rnds_snoc]
  generalize done.foldl (rndStep o) [] = found at *
  have hfl : (found ++ [cyc o f]).flatten = found.flatten ++ cyc o f := by simp
  by_cases hm : f ∈ found.flatten
  · rw [show rndStep o found f = found from if_pos hm]
    clear hfl
    generalize found.flatten = met at *
    refine ⟨_, ?_, .own (.int f) .full, s4, rfl⟩
    rw [forF_K]
    simp -implicitDefEqProofs [DE_int.cmpNotIn (by decide : (0 : Nat) < 64) f met, hm]
  · rw [show rndStep o found f = found ++ [cyc o f] from if_neg hm, hfl]
    clear hfl
    generalize found.flatten = met at *
    have a0 := at1 (xs := o) (g := f) (by omega)
    have key : ∃ e', whlL (whlT cs (.cmp .ne (.sub (.var 0) (.op .sub (.sub (.var 4) (.neg (.int 1))) (.int 1))) (.var 3))) (whlF cs (.cons (.app 4 (.sub (.var 0) (.op .sub (.sub (.var 4) (.neg (.int 1))) (.int 1)))) .nil)) turns
      [Slot.own (.tup (o.map .int)) .sh, .own (.lst (found.map fun k => .lst (k.map .int))) .full, .own (.lst (met.map .int)) .full, .own (.int f) .full, .own (.lst [.int f]) .full] = .nx e' ∧
      e' = [Slot.own (.tup (o.map .int)) .sh, .own (.lst (found.map fun k => .lst (k.map .int))) .full, .own (.lst (met.map .int)) .full, .own (.int f) .full, .own (.lst ((cyc o f).map .int)) .full] := by
      refine whlL_run (fun m e => ∃ (pre : List Int) (goal : Int), e = [Slot.own (.tup (o.map .int)) .sh, .own (.lst (found.map fun k => .lst (k.map .int))) .full, .own (.lst (met.map .int)) .full, .own (.int f) .full, .own (.lst ((pre ++ [goal]).map .int)) .full] ∧ 1 ≤ goal ∧ goal ≤ n ∧ Ret o f m (nth1 o goal) ∧ pre ++ [goal] ++ cycF o f m (nth1 o goal) = cyc o f ∧ pre.length + m ≤ n + 1) _ ?step turns n _
        ⟨[], f, rfl, hf.1, hf.2, ho.ret hf, by unfold cyc; rw [hl]; rfl, by simp⟩ (by unfold turns; omega)
      rintro m e ⟨pre, goal, rfl, g1, g2, hret, hc, hlen⟩
      have a1 := at1 (xs := o) (g := goal) (by omega)
      have i1 := ho.at (g := goal) (by omega)
      have al := at_last (pre.map D.int) (.int goal)
      by_cases hg : nth1 o goal = f
      · refine .inl ⟨_, ?_, rfl⟩
        rw [hg, cycF_end, List.append_nil] at hc
        rw [← hc]
        unfold whlT
        simp -implicitDefEqProofs [al, a1, hg]
      · refine .inr ?_
        cases m with
        | zero => exact absurd hret hg
        | succ m =>
          have hr' : Ret o f m (nth1 o (nth1 o goal)) := by
            rcases hret with hret | hret
            · exact absurd hret hg
            · exact hret
          unfold cycF at hc
          rw [if_neg hg] at hc
          have z : pre.length + 1 < sizeLine := line5 (by omega)
          refine ⟨[Slot.own (.tup (o.map .int)) .sh, .own (.lst (found.map fun k => .lst (k.map .int))) .full, .own (.lst (met.map .int)) .full, .own (.int f) .full, .own (.lst ((pre ++ [goal]).map .int)) .full], [Slot.own (.tup (o.map .int)) .sh, .own (.lst (found.map fun k => .lst (k.map .int))) .full, .own (.lst (met.map .int)) .full, .own (.int f) .full, .own (.lst ((pre ++ [goal] ++ [nth1 o goal]).map .int)) .full], m, by omega, ?_, ?_, pre ++ [goal], nth1 o goal, rfl, i1.1, i1.2, hr', by rw [List.append_assoc]; exact hc, by simp; omega⟩
          · unfold whlT
            simp -implicitDefEqProofs [al, a1, hg]
          · unfold whlF
            simp -implicitDefEqProofs [al, a1, z]
    obtain ⟨e', h1, rfl⟩ := key
    have z3 : found.length < sizeLine := line5 (by omega)
    have z4 : met.length + (cyc o f).length ≤ sizeLine := Nat.le_of_lt (line5 (by omega))
    refine ⟨_, ?_, .own (.int f) .full, .none, rfl⟩
    rw [forF_K]
    simp -implicitDefEqProofs [DE_int.cmpNotIn (by decide : (0 : Nat) < 64) f met, hm, h1, opLL, z3, z4]
end C
end VI
namespace VI
namespace C
open PySem PySem.Spec PyProof.Rows L2
def Rounds (cs : CS) : Prop := cs.io "rounds" = [false] ∧ ∀ (n : Nat) (o : List Int), IsOrd n o → 1 ≤ n → n ≤ 100 → cs.run "rounds" [(tupI o, .sh)] = .ret (lstL (rnds o)) .top [.none]
/-- the dict of what is met -/
def Met (kvs : List (Key × D)) (met : List Int) : Prop := (∀ k : Int, (dlookK (.inl k) kvs).isSome = decide (k ∈ met)) ∧ kvs.length ≤ met.length
theorem Met.put {kvs : List (Key × D)} {met : List Int} (h : Met kvs met) (t : Int) : Met (dputK (.inl t) (.bl true) kvs) (met ++ [t]) := by
  refine ⟨fun k => ?_, ?_⟩
  · rw [dlook_put, h.1]
    by_cases e : t = k
    · subst e; simp
    · have e2 : ¬ k = t := fun z => e z.symm
      have e3 : ¬ (Sum.inl t : Key) = .inl k := fun z => e (by cases z; rfl)
      simp [e2, e3]
  · have := dput_len (.inl t) (.bl true) kvs
    have := h.2
    rw [List.length_append]
    simp; omega
theorem rounds_ok {fs : List Fn} (h : Has fs f_rounds) {k : Nat} (hR : RoundFrom (csOf fs k)) : Rounds (csOf fs (k + 1)) := by
  refine ⟨h.io _, fun n o ho hn1 hn => ?_⟩
  rw [show ("rounds" : Str) = f_rounds.name from rfl, h.run _ rfl (by decide)]
  have hl := ho.len
  have hr := range_up 1 ((n : Int) + 1) (by omega)
  rw [show ((n : Int) + 1 - 1).toNat = n by omega] at hr
  generalize csOf fs k = cs at *
  obtain ⟨iR, rR⟩ := hR
  unfold f_rounds tupI lstL
  simp -implicitDefEqProofs [hl, hr]
  refine forL_end ((fun d => (d, Lv.full)) ∘ D.int) (fun done e => ∃ kvs s3 s4 lv, e = [Slot.own (.tup (o.map .int)) .sh, .own (.lst ((done.foldl (rndStep o) []).map fun k => .lst (k.map .int))) lv, .own (.dK kvs) .full, s3, s4] ∧ Met kvs (done.foldl (rndStep o) []).flatten ∧ ((done = [] ∧ lv = .full) ∨ (done ≠ [] ∧ lv = .top))) (rangeI 1 n 1) ⟨[], _, _, .full, rfl, ⟨fun k => rfl, Nat.le_refl _⟩, .inl ⟨rfl, rfl⟩⟩ ?hs ?hk
  case hk =>
    rintro e ⟨kvs, s3, s4, lv, rfl, hM, hlv⟩
    have hne : rangeI 1 n 1 ≠ [] := fun e => by
      have := congrArg List.length e
      simp [rangeI] at this
      omega
    obtain rfl : lv = .top := by
      rcases hlv with ⟨z, _⟩ | ⟨_, z⟩
      · exact absurd z hne
      · exact z
    have : rangeI 1 n 1 = C.upTo o.length := by rw [hl]; rfl
    simp -implicitDefEqProofs [this]
    rfl
  rintro done f rest e hd ⟨kvs, s3, s4, lv, rfl, hM, hlv⟩
  have hf : 1 ≤ f ∧ f ≤ n := upTo_mem.mp (by show f ∈ rangeI 1 n 1; rw [← hd]; simp)
  have hdl : done.length < n := by
    have := congrArg List.length hd
    simp [rangeI] at this
    omega
  obtain ⟨z1, z2⟩ := rnd_size ho done
  have hmul : done.length * (n + 1) ≤ 100 * 101 := Nat.mul_le_mul (by omega) (by omega)
  have hcl := cyc_len ho f
  have r1 := rR n o f ho (by omega) hf
  unfold tupI at r1
  have hne : ∀ k : Int, done ++ [k] ≠ [] := fun k => by simp
  have hl0 : lv ≠ .sh := by rcases hlv with ⟨_, z⟩ | ⟨_, z⟩ <;> rw [z] <;> simp
  have hf0 : done = [] → f = 1 := fun e => by
    subst e
    have : f :: rest = rangeI 1 n 1 := by simpa using hd
    have := congrArg (fun l => l.headD 0) this
    obtain ⟨m, rfl⟩ : ∃ m, n = m + 1 := ⟨n - 1, by omega⟩
    simp [rangeI, List.range_succ_eq_map] at this
    exact this
  rw [rnds_snoc]
  have hlv' : done = [] → (done.foldl (rndStep o) []) = [] := fun e => by rw [e]; rfl
  generalize done.foldl (rndStep o) [] = found at *
  have hfl : (found ++ [cyc o f]).flatten = found.flatten ++ cyc o f := by simp
  by_cases hm : f ∈ found.flatten
  · rw [show rndStep o found f = found from if_pos hm]
    have hlt : lv = .top := by
      rcases hlv with ⟨z, _⟩ | ⟨_, z⟩
      · rw [hlv' z] at hm; simp at hm
      · exact z
    have hk : (dlookK (.inl f) kvs).isSome = true := by rw [hM.1, decide_eq_true hm]
    refine ⟨_, ?_, kvs, .own (.int f) .full, s4, lv, rfl, hM, .inr ⟨hne f, hlt⟩⟩
    rw [forF_K]
    simp -implicitDefEqProofs [hk]
  · rw [show rndStep o found f = found ++ [cyc o f] from if_neg hm, hfl]
    clear hfl
    have hk : (dlookK (.inl f) kvs).isSome = false := by rw [hM.1, decide_eq_false hm]
    have hML := hM.2
    generalize found.flatten = met at *
    have z3 : found.length < sizeLine := line5 (by omega)
    have al := at_last (found.map fun k => D.lst (k.map D.int)) (.lst ((cyc o f).map .int))
    have hadd : addLv lv .full = lv := by cases lv <;> first | rfl | exact absurd rfl hl0
    have im : immL ((found.map fun k => D.lst (k.map D.int)) ++ [.lst ((cyc o f).map .int)]) = false := by
      generalize (found.map fun k => D.lst (k.map D.int)) = xs
      induction xs with
      | nil => rfl
      | cons x xs ih => rw [List.cons_append, immL_cons, ih, Bool.and_false]
    rw [forF_K]
    have inner : ∃ e2, forL (forF cs (.nm 4) (.cons (.setI 2 (.var 4) (.bl true)) .nil)) ((cyc o f).map ((fun d => (d, Lv.full)) ∘ D.int)) [Slot.own (.tup (o.map .int)) .sh, .own (.lst ((found.map fun k => D.lst (k.map D.int)) ++ [.lst ((cyc o f).map .int)])) .top, .own (.dK kvs) .full, .own (.int f) .full, s4] = .nx e2 ∧
        ∃ kvs' s4, e2 = [Slot.own (.tup (o.map .int)) .sh, .own (.lst ((found.map fun k => D.lst (k.map D.int)) ++ [.lst ((cyc o f).map .int)])) .top, .own (.dK kvs') .full, .own (.int f) .full, s4] ∧ Met kvs' (met ++ cyc o f) := by
      refine forL_inv ((fun d => (d, Lv.full)) ∘ D.int) (fun dn e => ∃ kvs' s4, e = [Slot.own (.tup (o.map .int)) .sh, .own (.lst ((found.map fun k => D.lst (k.map D.int)) ++ [.lst ((cyc o f).map .int)])) .top, .own (.dK kvs') .full, .own (.int f) .full, s4] ∧ Met kvs' (met ++ dn)) (cyc o f) (cyc o f) [] _ (by simp) ⟨kvs, s4, rfl, by rw [List.append_nil]; exact hM⟩ ?_
      rintro dn p rs e hp ⟨kvs', s4, rfl, hM'⟩
      have hdn := congrArg List.length hp
      rw [List.length_append, List.length_cons] at hdn
      have hMl := hM'.2
      rw [List.length_append] at hMl
      have z5 : kvs'.length < sizeLine := line5 (by omega)
      refine ⟨_, ?_, dputK (.inl p) (.bl true) kvs', .own (.int p) .full, rfl, by rw [← List.append_assoc]; exact hM'.put p⟩
      rw [forF_K]
      simp -implicitDefEqProofs [z5]
    obtain ⟨e2, h2, kvs', s4', rfl, hM'⟩ := inner
    refine ⟨[Slot.own (.tup (o.map .int)) .sh, .own (.lst ((found.map fun k => D.lst (k.map D.int)) ++ [.lst ((cyc o f).map .int)])) .top, .own (.dK kvs') .full, .own (.int f) .full, s4'], ?_, kvs', .own (.int f) .full, s4', .top, by simp, hM', .inr ⟨by simp, rfl⟩⟩
    simp -implicitDefEqProofs [hk, iR, r1, z3, hl0, hadd, al, im, h2]
end C
end VI
namespace VI
open PySem PySem.Spec PyProof.Rows L2
/-! ### more reckoning -/
def set2D (cs : CS) (i : Nat) (k : E) (j : Nat) (l : E) (e1 : Env) : Option D → Fl
  | some (.tup [d1, d2]) => if imm d1 && imm d2 then (storeX cs i k d1 e1).seq fun e2 => storeX cs j l d2 e2 else .stk
  | _ => .stk
@[simp] theorem set2D_t (cs : CS) (i : Nat) (k : E) (j : Nat) (l : E) (e1 : Env) (d1 d2 : D) : set2D cs i k j l e1 (some (.tup [d1, d2])) = if imm d1 && imm d2 then (storeX cs i k d1 e1).seq fun e2 => storeX cs j l d2 e2 else .stk := rfl
@[simp] theorem ex_set2 (cs : CS) (i : Nat) (k : E) (j : Nat) (l a b : E) (e : Env) : exec cs (.set2 i k j l a b) e = (evalE cs (.tup (.cons a (.cons b .nil))) e).fl fun x e1 => set2D cs i k j l e1 (deref e1 x) := by
  rw [exec] <;> rfl
@[simp] theorem storeX_def (cs : CS) (i : Nat) (k : E) (d : D) (e : Env) : storeX cs i k d e = setS cs i (d, .full) k e (gt e i) := by
  unfold storeX setS
  cases gt e i <;> rfl
theorem dlook_putV (k t : Key) (d : D) (kvs : List (Key × D)) : dlookK k (dputK t d kvs) = if t = k then some d else dlookK k kvs := by
  have upd : ∀ kvs : List (Key × D), dlookK k (kvs.map fun kv => if kv.1 = t then (kv.1, d) else kv) = if t = k then (if (dlookK k kvs).isSome then some d else none) else dlookK k kvs := by
    intro kvs
    induction kvs with
    | nil => by_cases h : t = k <;> simp [dlookK, h]
    | cons p r ih =>
      obtain ⟨j, c⟩ := p
      rw [List.map_cons]
      by_cases h1 : j = t
      · subst h1
        by_cases h2 : j = k
        · subst h2; simp [dlookK]
        · rw [if_pos rfl]
          show (if j = k then some d else dlookK k _) = _
          rw [if_neg h2, ih, if_neg h2, if_neg h2]
          show _ = (if j = k then some c else dlookK k r)
          rw [if_neg h2]
      · rw [if_neg h1]
        show (if j = k then some c else dlookK k _) = _
        by_cases h2 : j = k
        · subst h2
          have h3 : ¬ t = j := fun e => h1 e.symm
          rw [if_pos rfl, if_neg h3]
          show _ = (if j = j then some c else dlookK j r)
          rw [if_pos rfl]
        · rw [if_neg h2, ih]
          show _ = if t = k then (if (if j = k then some c else dlookK k r).isSome then some d else none) else (if j = k then some c else dlookK k r)
          rw [if_neg h2]
  have app : ∀ kvs : List (Key × D), (dlookK t kvs).isSome = false → dlookK k (kvs ++ [(t, d)]) = if t = k then some d else dlookK k kvs := by
    intro kvs
    induction kvs with
    | nil => intro _; rfl
    | cons p r ih =>
      obtain ⟨j, c⟩ := p
      intro hn
      rw [List.cons_append]
      show (if j = k then some c else dlookK k (r ++ [(t, d)])) = if t = k then some d else (if j = k then some c else dlookK k r)
      have hj : ¬ j = t := fun e => by
        have : dlookK t ((j, c) :: r) = some c := by show (if j = t then some c else dlookK t r) = _; rw [if_pos e]
        rw [this] at hn; cases hn
      have hr : (dlookK t r).isSome = false := by
        have : dlookK t ((j, c) :: r) = dlookK t r := by show (if j = t then some c else dlookK t r) = _; rw [if_neg hj]
        rwa [this] at hn
      by_cases h2 : j = k
      · subst h2
        have h3 : ¬ t = j := fun e => hj e.symm
        rw [if_pos rfl, if_neg h3, if_pos rfl]
      · rw [if_neg h2, ih hr, if_neg h2]
  unfold dputK
  split
  · rename_i h
    rw [upd]
    rw [dlook_any] at h
    by_cases e : t = k
    · subst e
      rw [if_pos rfl, if_pos h, if_pos rfl]
    · rw [if_neg e, if_neg e]
  · rename_i h
    rw [dlook_any] at h
    exact app kvs (by simpa using h)
theorem compL_inv {β : Type} {f : D × Lv → Env → R (Option (D × Lv))} (g : β → D × Lv) (I : List β → List (D × Lv) → Env → Prop) (all : List β) : ∀ (ps done : List β) (res : List (D × Lv)) (n : Nat) (e : Env), done ++ ps = all → I done res e → n + ps.length ≤ sizeLine →
    (∀ done p rest res e, done ++ p :: rest = all → I done res e → ∃ q e', f (g p) e = .ok (some q) e' ∧ I (done ++ [p]) (res ++ [q]) e') → ∃ rs e', compL f n (ps.map g) e = .ok rs e' ∧ I all (res ++ rs) e'
  | [], done, res, n, e, ha, h, _, _ => ⟨[], e, rfl, by rw [← ha]; simpa using h⟩
  | p :: ps, done, res, n, e, ha, h, hn, s => by
    obtain ⟨q, e1, h1, h2⟩ := s done p ps res e ha h
    rw [List.length_cons] at hn
    obtain ⟨rs, e2, h3, h4⟩ := compL_inv g I all ps (done ++ [p]) (res ++ [q]) (n + 1) e1 (by simpa using ha) h2 (by omega) s
    refine ⟨q :: rs, e2, ?_, by rw [List.append_assoc] at h4; exact h4⟩
    show (f (g p) e).bind _ = _
    rw [h1]
    show (if n < sizeLine then (compL f (n + 1) (ps.map g) e1).bind fun rs e2 => R.ok (q :: rs) e2 else .stk) = _
    rw [if_pos (by omega), h3]; rfl
theorem erase_perm {α : Type} : ∀ {l : List α} {i : Nat} (h : i < l.length), (l[i] :: l.eraseIdx i).Perm l
  | x :: l, 0, h => .refl _
  | x :: l, i + 1, h => by
    have := erase_perm (l := l) (i := i) (by simpa using h)
    rw [List.eraseIdx_cons_succ, List.getElem_cons_succ]
    exact (List.Perm.swap x _ _).trans (this.cons x)
namespace C
/-- where a round of all things leads on -/
def succL (xs : List Int) (t : Int) : Int := xs.getD ((xs.idxOf t + 1) % xs.length) 0
theorem succ_ord {n : Nat} {xs : List Int} (h : IsOrd n xs) (hn : 1 ≤ n) : IsOrd n ((C.upTo n).map (succL xs)) := by
  have hl := h.len
  -- all numbers stand in xs
  have mem : ∀ t : Int, 1 ≤ t ∧ t ≤ n → t ∈ xs := fun t ht => by
    refine Classical.byContradiction fun hc => ?_
    have := nodup_le n (t :: xs) (List.nodup_cons.mpr ⟨hc, h.nd⟩) fun x hx => by
      rcases List.mem_cons.mp hx with rfl | hx
      · exact ht
      · exact h.rg x hx
    rw [List.length_cons] at this
    omega
  have hix : ∀ t : Int, (xs.idxOf t + 1) % xs.length < xs.length := fun t => Nat.mod_lt _ (by omega)
  have val : ∀ t : Int, succL xs t = xs[(xs.idxOf t + 1) % xs.length]'(hix t) := fun t => getD_at (hix t) 0
  refine ⟨by rw [List.length_map, upTo_len], ?_, fun g hg => ?_⟩
  · rw [List.nodup_iff_pairwise_ne, List.pairwise_map]
    refine (List.nodup_iff_pairwise_ne.mp (upTo_nodup n)).imp_of_mem fun {a b} ha hb hab e => hab ?_
    rw [val, val] at e
    have e2 := (List.getElem_inj h.nd).mp e
    have ia := List.idxOf_lt_length_of_mem (mem a (upTo_mem.mp ha))
    have ib := List.idxOf_lt_length_of_mem (mem b (upTo_mem.mp hb))
    have e3 : xs.idxOf a = xs.idxOf b := by
      by_cases c1 : xs.idxOf a + 1 < xs.length
      · rw [Nat.mod_eq_of_lt c1] at e2
        by_cases c2 : xs.idxOf b + 1 < xs.length
        · rw [Nat.mod_eq_of_lt c2] at e2; omega
        · have : xs.idxOf b + 1 = xs.length := by omega
          rw [this, Nat.mod_self] at e2; omega
      · have c3 : xs.idxOf a + 1 = xs.length := by omega
        rw [c3, Nat.mod_self] at e2
        by_cases c2 : xs.idxOf b + 1 < xs.length
        · rw [Nat.mod_eq_of_lt c2] at e2; omega
        · omega
    have g1 := List.getElem_idxOf ia
    have g2 := List.getElem_idxOf ib
    rw [← g1, ← g2]
    simp only [e3]
  · obtain ⟨t, _, rfl⟩ := List.mem_map.mp hg
    rw [val]
    exact h.rg _ (List.getElem_mem _)
theorem succ_at {n : Nat} {xs : List Int} (h : IsOrd n xs) {i : Nat} (hi : i < n) : succL xs (xs.getD i 0) = xs.getD ((i + 1) % n) 0 := by
  have hl := h.len
  unfold succL
  rw [getD_at (by omega : i < xs.length)]
  rw [h.nd.idxOf_getElem i (by omega), hl]
def Order (cs : CS) : Prop := cs.io "_law_order" = [true, false] ∧ ∀ (N : Nat) (d : D) (n : Nat), PurseOk N d → N < 10000 → 1 ≤ n → n ≤ 100 →
  ∃ o d', cs.run "_law_order" [(d, .full), (.int n, .sh)] = .ret (tupI o) .full [.own d' .full, .none] ∧ IsOrd n o ∧ PurseOk (N + 1000) d'
theorem popS_n {e : Env} {i : Nat} {xs : List Int} {l : Lv} {k : Int} (hl : l ≠ .sh) (h0 : 0 ≤ k) (hk : k.toNat < xs.length) (hb : xs.length ≤ 1000000) : popS i (some k) e (.own (.lst (xs.map .int)) l) = .ok (.tmp (.int xs[k.toNat]) .full) (e.set i (.own (.lst ((xs.eraseIdx k.toNat).map .int)) l)) := by
  have := popS_at e i (k := k.toNat) hl hk hb
  rwa [Int.toNat_of_nonneg h0] at this
theorem order_ok {fs : List Fn} (h : Has fs f__law_order) {k : Nat} (ht : Take (csOf fs k)) : Order (csOf fs (k + 1)) := by
  refine ⟨h.io _, fun N d n hd hN hn1 hn => ?_⟩
  rw [show ("_law_order" : Str) = f__law_order.name from rfl, h.run _ rfl (by decide)]
  generalize csOf fs k = cs at ht
  obtain ⟨iT, rT⟩ := ht
  obtain ⟨r0, d0, q0, a0, b0, p0⟩ := rT N d 4 hd (by omega) (by omega) (by omega)
  have hru := range_up 1 ((n : Int) + 1) (by omega)
  rw [show ((n : Int) + 1 - 1).toNat = n by omega] at hru
  have hrt := range_to (n : Int) (by omega)
  rw [Int.toNat_natCast] at hrt
  have hll : (rangeI 1 n 1).length = n := by simp [rangeI]
  have hsz : n ≤ sizeLine := line0 (by omega)
  unfold f__law_order tupI
  by_cases c1 : r0 < 2
  · -- drawn one by one
    have key : ∃ e', forL (forF cs (.nm 7) (.cons (.app 8 (.pop 3 (.so (.call "_law_take" (.cons (.var 0) (.cons (.b1 .len (.var 3)) .nil)))))) .nil)) ((rangeI 0 n 1).map ((fun d => (d, Lv.full)) ∘ D.int))
        [Slot.own d0 .full, .own (.int n) .sh, .own (.int r0) .full, .own (.lst ((rangeI 1 n 1).map .int)) .full, .none, .none, .none, .none, .own (.lst []) .full, .none, .none, .none] = .nx e' ∧
        ∃ (d' : D) (L F : List Int) (s7 : Slot), e' = [Slot.own d' .full, .own (.int n) .sh, .own (.int r0) .full, .own (.lst (L.map .int)) .full, .none, .none, .none, s7, .own (.lst (F.map .int)) .full, .none, .none, .none] ∧ (F ++ L).Perm (rangeI 1 n 1) ∧ F.length = (rangeI 0 n 1).length ∧ PurseOk (N + 1 + (rangeI 0 n 1).length) d' := by
      refine forL_inv ((fun d => (d, Lv.full)) ∘ D.int) (fun done e => ∃ (d' : D) (L F : List Int) (s7 : Slot), e = [Slot.own d' .full, .own (.int n) .sh, .own (.int r0) .full, .own (.lst (L.map .int)) .full, .none, .none, .none, s7, .own (.lst (F.map .int)) .full, .none, .none, .none] ∧ (F ++ L).Perm (rangeI 1 n 1) ∧ F.length = done.length ∧ PurseOk (N + 1 + done.length) d') _ _ [] _ rfl ⟨d0, _, [], _, rfl, by simp, rfl, p0⟩ ?_
      rintro done p rest e hp ⟨d', L, F, s7, rfl, hperm, hF, hpu⟩
      have hdl := congrArg List.length hp
      simp [rangeI] at hdl
      have hLl := hperm.length_eq
      rw [List.length_append, hll] at hLl
      obtain ⟨r, d2, q2, a2, b2, p2⟩ := rT _ d' (L.length : Int) hpu (by omega) (by omega) (by omega)
      have hrl : r.toNat < L.length := by omega
      have hpop := fun e => popS_n (e := e) (i := 3) (xs := L) (l := .full) (by simp) a2 hrl (by omega)
      have z : F.length < sizeLine := line5 (by omega)
      refine ⟨_, ?_, d2, L.eraseIdx r.toNat, F ++ [L[r.toNat]], .own (.int p) .full, rfl, ?_, by simp [hF], by rw [List.length_append]; exact p2⟩
      · rw [forF_K]
        simp -implicitDefEqProofs [iT, q2, hpop, z]
      · rw [List.append_assoc]
        exact ((erase_perm hrl).append_left F).trans hperm
    obtain ⟨e', h1, d', L, F, s7, rfl, hperm, hF, hpu⟩ := key
    have hLl := hperm.length_eq
    rw [List.length_append, hll, hF] at hLl
    have hL0 : L = [] := List.length_eq_zero_iff.mp (by rw [rangeI_len] at hLl; omega)
    subst hL0
    rw [List.append_nil] at hperm
    refine ⟨F, d', ?_, ord_perm hperm, hpu.mono (by simp [rangeI]; omega)⟩
    simp -implicitDefEqProofs [iT, q0, hru, hll, hsz, c1, hrt, h1]
  · by_cases c2 : r0 = 2
    · -- few exchanges
      subst c2
      obtain ⟨r1, d1, q1, a1, b1, p1⟩ := rT _ d0 4 p0 (by omega) (by omega) (by omega)
      have hr1 := range_to r1 (by omega)
      have key : ∃ e', forL (forF cs (.nm 7) (.cons (.asg (.nm 9) (.call "_law_take" (.cons (.var 0) (.cons (.var 1) .nil)))) (.cons (.asg (.nm 10) (.call "_law_take" (.cons (.var 0) (.cons (.var 1) .nil)))) (.cons (.set2 3 (.var 9) 3 (.var 10) (.sub (.var 3) (.var 10)) (.sub (.var 3) (.var 9))) .nil)))) ((rangeI 0 r1.toNat 1).map ((fun d => (d, Lv.full)) ∘ D.int))
          [Slot.own d1 .full, .own (.int n) .sh, .own (.int 2) .full, .own (.lst ((rangeI 1 n 1).map .int)) .full, .none, .none, .none, .none, .none, .none, .none, .none] = .nx e' ∧
          ∃ (d' : D) (L : List Int) (s7 s9 s10 : Slot), e' = [Slot.own d' .full, .own (.int n) .sh, .own (.int 2) .full, .own (.lst (L.map .int)) .full, .none, .none, .none, s7, .none, s9, s10, .none] ∧ L.Perm (rangeI 1 n 1) ∧ PurseOk (N + 2 + 2 * (rangeI 0 r1.toNat 1).length) d' := by
        refine forL_inv ((fun d => (d, Lv.full)) ∘ D.int) (fun done e => ∃ (d' : D) (L : List Int) (s7 s9 s10 : Slot), e = [Slot.own d' .full, .own (.int n) .sh, .own (.int 2) .full, .own (.lst (L.map .int)) .full, .none, .none, .none, s7, .none, s9, s10, .none] ∧ L.Perm (rangeI 1 n 1) ∧ PurseOk (N + 2 + 2 * done.length) d') _ _ [] _ rfl ⟨d1, _, _, _, _, rfl, .refl _, p1⟩ ?_
        rintro done p rest e hp ⟨d', L, s7, s9, s10, rfl, hperm, hpu⟩
        have hdl := congrArg List.length hp
        simp [rangeI] at hdl
        have hLl := hperm.length_eq
        rw [hll] at hLl
        obtain ⟨x, d2, q2, a2, b2, p2⟩ := rT _ d' (n : Int) hpu (by omega) (by omega) (by omega)
        obtain ⟨y, d3, q3, a3, b3, p3⟩ := rT _ d2 (n : Int) p2 (by omega) (by omega) (by omega)
        obtain ⟨x, rfl⟩ : ∃ m : Nat, x = m := ⟨x.toNat, by omega⟩
        obtain ⟨y, rfl⟩ : ∃ m : Nat, y = m := ⟨y.toNat, by omega⟩
        have hx : x < L.length := by omega
        have hy : y < L.length := by omega
        have t1 := atN D.int hx
        have t2 := atN D.int hy
        have i1 : ixN L.length (x : Int) = some x := by unfold ixN; rw [if_pos (by omega), if_pos (by omega), Int.toNat_natCast]
        have i2 : ixN L.length (y : Int) = some y := by unfold ixN; rw [if_pos (by omega), if_pos (by omega), Int.toNat_natCast]
        refine ⟨_, ?_, d3, (L.set x L[y]).set y L[x], .own (.int p) .full, .own (.int x) .full, .own (.int y) .full, rfl, (List.set_set_perm hx hy).trans hperm, p3.mono (by simp; omega)⟩
        rw [forF_K]
        simp -implicitDefEqProofs [iT, q2, q3, t1, t2, i1, i2]
      obtain ⟨e', h1, d', L, s7, s9, s10, rfl, hperm, hpu⟩ := key
      refine ⟨L, d', ?_, ord_perm hperm, hpu.mono (by simp [rangeI]; omega)⟩
      simp -implicitDefEqProofs [iT, q0, hru, hll, hsz, hrt, q1, hr1, h1]
    · -- one long round
      obtain ⟨at0, d1, q1, a1, b1, p1⟩ := rT _ d0 (n : Int) p0 (by omega) (by omega) (by omega)
      have key : ∃ rs e', compL (compF cs (.nm 7) [7] .no (.pop 3 (.so (.op .mod (.op .add (.var 4) (.call "_law_take" (.cons (.var 0) (.cons (.var 1) .nil)))) (.b1 .len (.var 3)))))) 0 ((rangeI 0 n 1).map ((fun d => (d, Lv.full)) ∘ D.int))
          [Slot.own d1 .full, .own (.int n) .sh, .own (.int r0) .full, .own (.lst ((rangeI 1 n 1).map .int)) .full, .own (.int at0) .full, .none, .none, .none, .none, .none, .none, .none] = .ok rs e' ∧
          ∃ (d' : D) (L F : List Int), [] ++ rs = F.map (fun x => (D.int x, Lv.full)) ∧ e' = [Slot.own d' .full, .own (.int n) .sh, .own (.int r0) .full, .own (.lst (L.map .int)) .full, .own (.int at0) .full, .none, .none, .none, .none, .none, .none, .none] ∧ (F ++ L).Perm (rangeI 1 n 1) ∧ F.length = (rangeI 0 n 1).length ∧ PurseOk (N + 2 + (rangeI 0 n 1).length) d' := by
        refine compL_inv ((fun d => (d, Lv.full)) ∘ D.int) (fun done res e => ∃ (d' : D) (L F : List Int), res = F.map (fun x => (D.int x, Lv.full)) ∧ e = [Slot.own d' .full, .own (.int n) .sh, .own (.int r0) .full, .own (.lst (L.map .int)) .full, .own (.int at0) .full, .none, .none, .none, .none, .none, .none, .none] ∧ (F ++ L).Perm (rangeI 1 n 1) ∧ F.length = done.length ∧ PurseOk (N + 2 + done.length) d') _ _ [] [] 0 _ rfl ⟨d1, _, [], rfl, rfl, by simp, rfl, p1⟩ (by simp [rangeI]; exact hsz) ?_
        rintro done p rest res e hp ⟨d', L, F, rfl, rfl, hperm, hF, hpu⟩
        have hdl := congrArg List.length hp
        simp [rangeI] at hdl
        have hLl := hperm.length_eq
        rw [List.length_append, hll] at hLl
        obtain ⟨r, d2, q2, a2, b2, p2⟩ := rT _ d' (n : Int) hpu (by omega) (by omega) (by omega)
        have hLp : (0 : Int) < L.length := by omega
        have m1 := Int.emod_nonneg (at0 + r) (show (L.length : Int) ≠ 0 by omega)
        have m2 := Int.emod_lt_of_pos (at0 + r) hLp
        have hrl : ((at0 + r) % (L.length : Int)).toNat < L.length := by omega
        have hpop := fun e => popS_n (e := e) (i := 3) (xs := L) (l := .full) (by simp) m1 hrl (by omega)
        have hLp' : 0 < L.length := by omega
        refine ⟨(.int L[((at0 + r) % (L.length : Int)).toNat], .full), _, ?_, d2, L.eraseIdx ((at0 + r) % (L.length : Int)).toNat, F ++ [L[((at0 + r) % (L.length : Int)).toNat]], by simp, rfl, ?_, by simp [hF], by rw [List.length_append]; exact p2⟩
        · unfold compF
          simp -implicitDefEqProofs [iT, q2, hpop, hLp, hLp']
        · rw [List.append_assoc]
          exact ((erase_perm hrl).append_left F).trans hperm
      obtain ⟨rs, e', h1, d', L, F, hrs, rfl, hperm, hF, hpu⟩ := key
      rw [List.nil_append] at hrs
      subst hrs
      have hLl := hperm.length_eq
      rw [List.length_append, hll, hF] at hLl
      have hL0 : L = [] := List.length_eq_zero_iff.mp (by rw [rangeI_len] at hLl; omega)
      subst hL0
      rw [List.append_nil] at hperm
      have hFo := ord_perm (n := n) hperm
      have hFl := hFo.len
      have key2 : ∃ e', forL (forF cs (.nm 7) (.cons (.setI 6 (.sub (.var 5) (.var 7)) (.sub (.var 5) (.op .mod (.op .add (.var 7) (.int 1)) (.var 1)))) .nil)) ((rangeI 0 n 1).map ((fun d => (d, Lv.full)) ∘ D.int))
          [Slot.own d' .full, .own (.int n) .sh, .own (.int r0) .full, .own (.lst []) .full, .own (.int at0) .full, .own (.lst (F.map .int)) .full, .own (.dK []) .full, .none, .none, .none, .none, .none] = .nx e' ∧
          ∃ (kvs : List (Key × D)) (s7 : Slot), e' = [Slot.own d' .full, .own (.int n) .sh, .own (.int r0) .full, .own (.lst []) .full, .own (.int at0) .full, .own (.lst (F.map .int)) .full, .own (.dK kvs) .full, s7, .none, .none, .none, .none] ∧ (∀ i, i < (rangeI 0 n 1).length → dlookK (.inl (F.getD i 0)) kvs = some (.int (F.getD ((i + 1) % n) 0))) ∧ kvs.length ≤ (rangeI 0 n 1).length := by
        refine forL_inv ((fun d => (d, Lv.full)) ∘ D.int) (fun done e => ∃ (kvs : List (Key × D)) (s7 : Slot), e = [Slot.own d' .full, .own (.int n) .sh, .own (.int r0) .full, .own (.lst []) .full, .own (.int at0) .full, .own (.lst (F.map .int)) .full, .own (.dK kvs) .full, s7, .none, .none, .none, .none] ∧ (∀ i, i < done.length → dlookK (.inl (F.getD i 0)) kvs = some (.int (F.getD ((i + 1) % n) 0))) ∧ kvs.length ≤ done.length) _ _ [] _ rfl ⟨[], _, rfl, fun i hi => by simp at hi, Nat.le_refl _⟩ ?_
        rintro done p rest e hp ⟨kvs, s7, rfl, hk, hkl⟩
        have hdl := congrArg List.length hp
        simp [rangeI] at hdl
        obtain rfl : p = (done.length : Int) := by
          have h3 : (done ++ p :: rest)[done.length]? = (rangeI 0 n 1)[done.length]? := by rw [hp]
          rw [List.getElem?_append_right (Nat.le_refl _), Nat.sub_self] at h3
          have h4 := rangeI_get h3.symm
          omega
        have j1 : done.length < F.length := by omega
        have j2 : (done.length + 1) % n < F.length := by rw [hFl]; exact Nat.mod_lt _ (by omega)
        have t1 := atN D.int j1
        have t2 := atN D.int j2
        rw [Int.natCast_emod, Int.natCast_add] at t2
        have hn0 : (0 : Int) < n := by omega
        have hn0' : 0 < n := by omega
        have z : kvs.length < sizeLine := line5 (by omega)
        refine ⟨_, ?_, dputK (.inl F[done.length]) (.int F[(done.length + 1) % n]) kvs, .own (.int done.length) .full, rfl, fun i hi => ?_, ?_⟩
        · rw [forF_K]
          have t2' : atI (F.map D.int) (((done.length : Int) + 1) % (n : Int)) = some (.int F[(done.length + 1) % n]) := t2
          simp -implicitDefEqProofs [t1, t2', hn0, hn0', z]
        · rw [List.length_append, List.length_singleton] at hi
          rw [dlook_putV]
          by_cases e : i = done.length
          · subst e
            rw [getD_at j1, getD_at j2, if_pos rfl]
          · have hi' : i < done.length := by omega
            have : ¬ (Sum.inl F[done.length] : Key) = .inl (F.getD i 0) := fun z => by
              rw [getD_at (by omega : i < F.length)] at z
              have z2 : F[done.length] = F[i] := by injection z
              have := (List.getElem_inj hFo.nd).mp z2
              omega
            rw [if_neg this]
            exact hk i hi'
        · have := dput_len (.inl F[done.length]) (.int F[(done.length + 1) % n]) kvs
          rw [List.length_append, List.length_singleton]; omega
      obtain ⟨e', h2, kvs, s7, rfl, hk, hkl⟩ := key2
      have hres : ∀ t ∈ rangeI 1 n 1, dlookK (.inl t) kvs = some (.int (succL F t)) := fun t htm => by
        have hmem : t ∈ F := hperm.mem_iff.mpr htm
        have hi := List.idxOf_lt_length_of_mem hmem
        have := hk (F.idxOf t) (by simp [rangeI]; omega)
        rw [getD_at hi, List.getElem_idxOf] at this
        rw [this]
        unfold succL
        rw [hFl]
      have key3 : ∀ (s7 : Slot), compL (compF cs (.nm 11) [11] .no (.sub (.var 6) (.var 11))) 0 ((rangeI 1 n 1).map ((fun d => (d, Lv.full)) ∘ D.int)) [Slot.own d' .full, .own (.int n) .sh, .own (.int r0) .full, .own (.lst []) .full, .own (.int at0) .full, .own (.lst (F.map .int)) .full, .own (.dK kvs) .full, s7, .none, .none, .none, .none] = .ok ((rangeI 1 n 1).map fun t => (D.int (succL F t), Lv.full)) [Slot.own d' .full, .own (.int n) .sh, .own (.int r0) .full, .own (.lst []) .full, .own (.int at0) .full, .own (.lst (F.map .int)) .full, .own (.dK kvs) .full, s7, .none, .none, .none, .none] := fun s7 => by
        refine compL_map ((fun d => (d, Lv.full)) ∘ D.int) (fun t => (D.int (succL F t), Lv.full)) _ _ _ (by rw [hll]; omega) fun t htm => ?_
        have := hres t htm
        unfold compF
        simp -implicitDefEqProofs [this]
      refine ⟨(C.upTo n).map (succL F), d', ?_, succ_ord hFo (by omega), hpu.mono (by simp [rangeI]; omega)⟩
      have hu : C.upTo n = rangeI 1 n 1 := rfl
      have mf : F.map ((fun x : D × Lv => x.1) ∘ fun x => (D.int x, Lv.full)) = F.map D.int := rfl
      simp -implicitDefEqProofs [iT, q0, hru, hll, hsz, c1, c2, hrt, q1, h1, h2, key3, hu, mf]
end C
end VI
namespace VI
namespace C
open PySem PySem.Spec PyProof.Rows L2
theorem nodup_sub_len {α : Type} [DecidableEq α] : ∀ {xs ys : List α}, xs.Nodup → (∀ x ∈ xs, x ∈ ys) → xs.length ≤ ys.length
  | [], ys, _, _ => Nat.zero_le _
  | x :: xs, ys, hn, h => by
    obtain ⟨h1, h2⟩ := List.nodup_cons.mp hn
    have hx := h x List.mem_cons_self
    have := nodup_sub_len (xs := xs) (ys := ys.erase x) h2 fun y hy => by
      have : y ≠ x := fun e => h1 (e ▸ hy)
      exact (List.mem_erase_of_ne this).mpr (h y (List.mem_cons_of_mem _ hy))
    rw [List.length_erase_of_mem hx] at this
    have : 0 < ys.length := List.length_pos_of_mem hx
    rw [List.length_cons]; omega
section
variable {n : Nat} {o : List Int}
theorem least_p (P : Nat → Prop) : ∀ N, P N → ∃ p, p ≤ N ∧ P p ∧ ∀ q, q < p → ¬ P q := by
  intro N
  induction N using Nat.strongRecOn with
  | ind N ih =>
    intro hN
    by_cases h : ∃ q, q < N ∧ P q
    · obtain ⟨q, h1, h2⟩ := h
      obtain ⟨p, h3, h4, h5⟩ := ih q h1 h2
      exact ⟨p, by omega, h4, h5⟩
    · exact ⟨N, Nat.le_refl _, hN, fun q hq hp => h ⟨q, hq, hp⟩⟩
/-- the period of a thing -/
theorem period (h : IsOrd n o) {f : Int} (hf : 1 ≤ f ∧ f ≤ n) : ∃ p, 1 ≤ p ∧ p ≤ n ∧ stepN o p f = f ∧ (∀ q, 1 ≤ q → q < p → stepN o q f ≠ f) := by
  obtain ⟨p0, h1, h2, h3⟩ := returns h hf
  obtain ⟨p, h4, ⟨h5, h6⟩, h7⟩ := least_p (fun p => 1 ≤ p ∧ stepN o p f = f) p0 ⟨h1, h3⟩
  exact ⟨p, h5, by omega, h6, fun q hq hp e => h7 q hp ⟨hq, e⟩⟩
theorem cycF_range (o : List Int) {f : Int} {p : Nat} (h2 : stepN o p f = f) (h3 : ∀ q, 1 ≤ q → q < p → stepN o q f ≠ f) : ∀ (m i : Nat), 1 ≤ i → i ≤ p → p - i ≤ m → cycF o f m (stepN o i f) = (List.range' i (p - i)).map fun k => stepN o k f
  | 0, i, _, hi, hm => by
    have : p - i = 0 := by omega
    rw [this]; rfl
  | m + 1, i, h1, hi, hm => by
    unfold cycF
    by_cases e : i = p
    · rw [e, h2, if_pos rfl, Nat.sub_self]; rfl
    · have : p - i = (p - (i + 1)) + 1 := by omega
      rw [if_neg (h3 i h1 (by omega)), this, List.range'_succ, List.map_cons, ← stepN_succ, cycF_range o h2 h3 m (i + 1) (by omega) (by omega) (by omega)]
theorem cyc_range (h : IsOrd n o) {f : Int} {p : Nat} (h0 : 1 ≤ p) (h1 : p ≤ n) (h2 : stepN o p f = f) (h3 : ∀ q, 1 ≤ q → q < p → stepN o q f ≠ f) : cyc o f = (List.range p).map fun k => stepN o k f := by
  unfold cyc
  rw [show nth1 o f = stepN o 1 f from rfl, cycF_range o h2 h3 o.length 1 (Nat.le_refl _) h0 (by rw [h.len]; omega)]
  have : p = (p - 1) + 1 := by omega
  conv => rhs; rw [this, List.range_eq_range', List.range'_succ, List.map_cons]
  rfl
theorem cyc_nodup (h : IsOrd n o) {f : Int} (hf : 1 ≤ f ∧ f ≤ n) : (cyc o f).Nodup := by
  obtain ⟨p, h0, h1, h2, h3⟩ := period h hf
  rw [cyc_range h h0 h1 h2 h3, List.nodup_iff_pairwise_ne, List.pairwise_map]
  have hp : List.Pairwise (fun a b => a < b) (List.range p) := List.pairwise_lt_range
  refine hp.imp_of_mem fun {a b} ha hb hab e => ?_
  have hb' := List.mem_range.mp hb
  have e2 : b = (b - a) + a := by omega
  rw [e2, stepN_add] at e
  exact h3 (b - a) (by omega) (by omega) (stepN_inj h a hf (stepN_in h (b - a) hf) e).symm
theorem cyc_in (h : IsOrd n o) {f : Int} (hf : 1 ≤ f ∧ f ≤ n) : ∀ g ∈ cyc o f, 1 ≤ g ∧ g ≤ n := fun g hg => by
  obtain ⟨p, h0, h1, h2, h3⟩ := period h hf
  rw [cyc_range h h0 h1 h2 h3] at hg
  obtain ⟨k, _, rfl⟩ := List.mem_map.mp hg
  exact stepN_in h k hf
/-- a round holds what its things are led to, and what leads to them -/
theorem cyc_fwd (h : IsOrd n o) {f : Int} (hf : 1 ≤ f ∧ f ≤ n) {g : Int} (hg : g ∈ cyc o f) : nth1 o g ∈ cyc o f := by
  obtain ⟨p, h0, h1, h2, h3⟩ := period h hf
  rw [cyc_range h h0 h1 h2 h3] at hg ⊢
  obtain ⟨k, hk, rfl⟩ := List.mem_map.mp hg
  have hk := List.mem_range.mp hk
  rw [← stepN_succ]
  by_cases e : k + 1 = p
  · rw [e, h2]
    exact List.mem_map.mpr ⟨0, List.mem_range.mpr (by omega), rfl⟩
  · exact List.mem_map.mpr ⟨k + 1, List.mem_range.mpr (by omega), rfl⟩
theorem cyc_bwd (h : IsOrd n o) {f : Int} (hf : 1 ≤ f ∧ f ≤ n) {g : Int} (hg1 : 1 ≤ g ∧ g ≤ n) (hg : nth1 o g ∈ cyc o f) : g ∈ cyc o f := by
  obtain ⟨p, h0, h1, h2, h3⟩ := period h hf
  rw [cyc_range h h0 h1 h2 h3] at hg ⊢
  obtain ⟨k, hk, e⟩ := List.mem_map.mp hg
  have hk := List.mem_range.mp hk
  cases k with
  | zero =>
    obtain ⟨q, rfl⟩ : ∃ q, p = q + 1 := ⟨p - 1, by omega⟩
    rw [stepN_succ] at h2
    have e' : f = nth1 o g := e
    rw [← h.inj (stepN_in h q hf) hg1 (h2.trans e')]
    exact List.mem_map.mpr ⟨q, List.mem_range.mpr (by omega), rfl⟩
  | succ k =>
    rw [stepN_succ] at e
    rw [← h.inj (stepN_in h k hf) hg1 e]
    exact List.mem_map.mpr ⟨k, List.mem_range.mpr (by omega), rfl⟩
theorem cyc_self (o : List Int) (f : Int) : f ∈ cyc o f := List.mem_cons_self
/-- what a round reaches -/
theorem cyc_steps (h : IsOrd n o) {f : Int} (hf : 1 ≤ f ∧ f ≤ n) {S : Int → Prop} (hS : ∀ g : Int, 1 ≤ g ∧ g ≤ n → S g → S (nth1 o g)) (h0 : S f) : ∀ g ∈ cyc o f, S g := fun g hg => by
  obtain ⟨p, z0, h1, h2, h3⟩ := period h hf
  rw [cyc_range h z0 h1 h2 h3] at hg
  obtain ⟨k, hk, rfl⟩ := List.mem_map.mp hg
  clear hg hk
  induction k with
  | zero => exact h0
  | succ k ih => rw [stepN_succ]; exact hS _ (stepN_in h k hf) ih
/-! ### all rounds -/
structure Rnd (n : Nat) (o : List Int) (done : List Int) (found : List (List Int)) : Prop where
  nd : found.flatten.Nodup
  rg : ∀ g ∈ found.flatten, 1 ≤ g ∧ g ≤ n
  cov : ∀ k ∈ done, k ∈ found.flatten
  bwd : ∀ g : Int, 1 ≤ g ∧ g ≤ n → nth1 o g ∈ found.flatten → g ∈ found.flatten
  fwd : ∀ g : Int, 1 ≤ g ∧ g ≤ n → g ∈ found.flatten → nth1 o g ∈ found.flatten
  is : ∀ c ∈ found, ∃ f : Int, (1 ≤ f ∧ f ≤ n) ∧ c = cyc o f
theorem rnd_all (h : IsOrd n o) : ∀ (ks done : List Int) (found : List (List Int)), (∀ k ∈ ks, 1 ≤ k ∧ k ≤ (n : Int)) → Rnd n o done found → Rnd n o (done ++ ks) (ks.foldl (rndStep o) found)
  | [], done, found, _, r => by rw [List.append_nil]; exact r
  | k :: ks, done, found, hk, r => by
    have hk1 := hk k List.mem_cons_self
    have e : done ++ k :: ks = (done ++ [k]) ++ ks := by simp
    rw [e, List.foldl_cons]
    refine rnd_all h ks (done ++ [k]) _ (fun j hj => hk j (List.mem_cons_of_mem _ hj)) ?_
    unfold rndStep
    split
    · rename_i hm
      refine ⟨r.nd, r.rg, fun j hj => ?_, r.bwd, r.fwd, r.is⟩
      rcases List.mem_append.mp hj with hj | hj
      · exact r.cov j hj
      · rw [List.mem_singleton.mp hj]; exact hm
    · rename_i hm
      have hfl : (found ++ [cyc o k]).flatten = found.flatten ++ cyc o k := by simp
      refine ⟨?_, ?_, ?_, ?_, ?_, ?_⟩
      · rw [hfl, List.nodup_append]
        refine ⟨r.nd, cyc_nodup h hk1, fun a ha b hb e => ?_⟩
        subst e
        -- nothing that was found comes on from k
        exact cyc_steps h hk1 (S := fun g => g ∉ found.flatten) (fun g hg hn hh => hn (r.bwd g hg hh)) hm a hb ha
      · intro g hg
        rw [hfl] at hg
        rcases List.mem_append.mp hg with hg | hg
        · exact r.rg g hg
        · exact cyc_in h hk1 g hg
      · intro j hj
        rw [hfl]
        rcases List.mem_append.mp hj with hj | hj
        · exact List.mem_append_left _ (r.cov j hj)
        · rw [List.mem_singleton.mp hj]; exact List.mem_append_right _ (cyc_self o k)
      · intro g hg hm'
        rw [hfl] at hm' ⊢
        rcases List.mem_append.mp hm' with hm' | hm'
        · exact List.mem_append_left _ (r.bwd g hg hm')
        · exact List.mem_append_right _ (cyc_bwd h hk1 hg hm')
      · intro g hg hm'
        rw [hfl] at hm' ⊢
        rcases List.mem_append.mp hm' with hm' | hm'
        · exact List.mem_append_left _ (r.fwd g hg hm')
        · exact List.mem_append_right _ (cyc_fwd h hk1 hm')
      · intro c hc
        rcases List.mem_append.mp hc with hc | hc
        · exact r.is c hc
        · exact ⟨k, hk1, List.mem_singleton.mp hc⟩
theorem rnds_ok (h : IsOrd n o) : Rnd n o (C.upTo n) (rnds o) := by
  have := rnd_all h (C.upTo n) [] [] (fun k hk => upTo_mem.mp hk) ⟨List.nodup_nil, fun g hg => by simp at hg, fun k hk => by simp at hk, fun g _ hg => by simp at hg, fun g _ hg => by simp at hg, fun c hc => by simp at hc⟩
  unfold rnds
  rw [h.len]
  exact this
theorem rnds_flat_len (h : IsOrd n o) : (rnds o).flatten.length = n := by
  have r := rnds_ok h
  have h1 := nodup_le n _ r.nd r.rg
  have h2 := nodup_sub_len (upTo_nodup n) r.cov
  rw [upTo_len] at h2
  omega
theorem rnds_len_le (h : IsOrd n o) : (rnds o).length ≤ n := by
  have h1 := rnds_flat_len h
  have h2 : ∀ cs : List (List Int), (∀ c ∈ cs, c ≠ []) → cs.length ≤ cs.flatten.length := by
    intro cs
    induction cs with
    | nil => intro _; simp
    | cons c cs ih =>
      intro hc
      have := ih fun d hd => hc d (List.mem_cons_of_mem _ hd)
      have := List.length_pos_iff.mpr (hc c List.mem_cons_self)
      simp only [List.length_cons, List.flatten_cons, List.length_append]
      omega
  have := h2 (rnds o) fun c hc e => by
    obtain ⟨f, _, rfl⟩ := (rnds_ok h).is c hc
    cases e
  omega
end
end C
end VI
namespace VI
namespace C
open PySem PySem.Spec PyProof.Rows L2
theorem led_in {n : Nat} {q : Int × Int} (hq : 1 ≤ q.1 ∧ q.1 < q.2 ∧ q.2 ≤ n) {g : Int} (hg : 1 ≤ g ∧ g ≤ n) : 1 ≤ ledT q g ∧ ledT q g ≤ n := by
  unfold ledT
  split
  · omega
  · split <;> omega
theorem led_inj {q : Int × Int} {a b : Int} (h : ledT q a = ledT q b) : a = b := by rw [← led_inv q a, h, led_inv]
theorem carr_ok {n : Nat} {p q : Int × Int} (hp : 1 ≤ p.1 ∧ p.1 < p.2 ∧ p.2 ≤ n) (hq : 1 ≤ q.1 ∧ q.1 < q.2 ∧ q.2 ≤ n) : 1 ≤ (carr p q).1 ∧ (carr p q).1 < (carr p q).2 ∧ (carr p q).2 ≤ n := by
  have h1 := led_in hq (g := p.1) (by omega)
  have h2 := led_in hq (g := p.2) (by omega)
  have h3 : ledT q p.1 ≠ ledT q p.2 := fun e => by have := led_inj e; omega
  unfold carr
  dsimp only
  split <;> split <;> omega
theorem pairM_ok {n : Nat} {p q : Int × Int} (hp : 1 ≤ p.1 ∧ p.1 < p.2 ∧ p.2 ≤ n) (hq : 1 ≤ q.1 ∧ q.1 < q.2 ∧ q.2 ≤ n) (w : Bool) : RowOk n (pairM p q w) := by
  intro x hx
  cases w
  · rcases List.mem_cons.mp hx with rfl | hx
    · exact carr_ok hq hp
    · rw [List.mem_singleton.mp hx]; exact hp
  · rcases List.mem_cons.mp hx with rfl | hx
    · exact hq
    · rw [List.mem_singleton.mp hx]; exact carr_ok hp hq
theorem RowOk.at {n : Nat} {row : List (Int × Int)} (h : RowOk n row) {k : Nat} (hk : k < row.length) : 1 ≤ (row.getD k (0, 0)).1 ∧ (row.getD k (0, 0)).1 < (row.getD k (0, 0)).2 ∧ (row.getD k (0, 0)).2 ≤ n := by
  rw [getD_at hk]; exact h _ (List.getElem_mem _)
theorem movedR_ok {n : Nat} {row : List (Int × Int)} (h : RowOk n row) {j : Nat} (hj : j + 1 < row.length) (w : Bool) : RowOk n (movedR row j w) := by
  intro p hp
  unfold movedR at hp
  rcases List.mem_append.mp hp with hp | hp
  · rcases List.mem_append.mp hp with hp | hp
    · exact h p (List.mem_of_mem_take hp)
    · exact pairM_ok (h.at (by omega)) (h.at hj) w p hp
  · exact h p (List.mem_of_mem_drop hp)
theorem row_parts {row : List (Int × Int)} {j : Nat} (hj : j + 1 < row.length) : row = row.take j ++ [row.getD j (0, 0), row.getD (j + 1) (0, 0)] ++ row.drop (j + 2) := by
  have h1 : row.drop j = row[j] :: row[j + 1] :: row.drop (j + 2) := by
    rw [List.drop_eq_getElem_cons (by omega), List.drop_eq_getElem_cons (by omega : j + 1 < row.length)]
  rw [getD_at (by omega : j < row.length), getD_at hj, List.append_assoc]
  show row = row.take j ++ (row[j] :: row[j + 1] :: row.drop (j + 2))
  rw [← h1, List.take_append_drop]
theorem pairM_follow {p q : Int × Int} (hp : p.1 < p.2) (hq : q.1 < q.2) (w : Bool) (g : Int) : follow (pairM p q w) g = follow [p, q] g := by
  cases w
  · show ledT p (ledT (carr q p) g) = ledT q (ledT p g)
    have := led_carr (p := q) (q := p) hq (ledT p g)
    rw [led_inv] at this
    rw [this, led_inv]
  · show ledT (carr p q) (ledT q g) = ledT q (ledT p g)
    exact led_carr hp g
theorem movedR_follow {n : Nat} {row : List (Int × Int)} (h : RowOk n row) {j : Nat} (hj : j + 1 < row.length) (w : Bool) (g : Int) : follow (movedR row j w) g = follow row g := by
  have e := row_parts hj
  have h1 := h.at (k := j) (by omega)
  have h2 := h.at hj
  unfold movedR
  rw [follow_app, follow_app, pairM_follow h1.2.1 h2.2.1]
  conv => rhs; rw [e]
  rw [follow_app, follow_app]
theorem take_left {α : Type} {a b : List α} {k : Nat} (h : a.length = k) : (a ++ b).take k = a := by
  subst h; simp
theorem drop_left {α : Type} {a b : List α} {k : Nat} (h : a.length = k) : (a ++ b).drop k = b := by
  subst h; simp
theorem getD_mid {α : Type} {a c : List α} {k : Nat} (h : a.length = k) (x y d : α) : (a ++ [x, y] ++ c).getD k d = x ∧ (a ++ [x, y] ++ c).getD (k + 1) d = y := by
  subst h
  constructor
  · rw [List.getD_eq_getElem?_getD, List.append_assoc, List.getElem?_append_right (Nat.le_refl _), Nat.sub_self]; rfl
  · rw [List.getD_eq_getElem?_getD, List.append_assoc, List.getElem?_append_right (by omega), Nat.add_sub_cancel_left]; rfl
theorem pairM_two (p q : Int × Int) (w : Bool) : ∃ x y, pairM p q w = [x, y] := by cases w <;> exact ⟨_, _, rfl⟩
theorem pairM_back {p q : Int × Int} (hp : p.1 < p.2) (hq : q.1 < q.2) (w : Bool) {x y : Int × Int} (h : pairM p q w = [x, y]) : pairM x y (!w) = [p, q] := by
  cases w
  · cases h
    show [p, carr (carr q p) p] = _
    rw [carr_back hq]
  · cases h
    show [carr (carr p q) q, q] = _
    rw [carr_back hp]
theorem movedR_back {n : Nat} {row : List (Int × Int)} (h : RowOk n row) {j : Nat} (hj : j + 1 < row.length) (w : Bool) : movedR (movedR row j w) j (!w) = row := by
  have e := row_parts hj
  have h1 := h.at (k := j) (by omega)
  have h2 := h.at hj
  obtain ⟨x, y, hxy⟩ := pairM_two (row.getD j (0, 0)) (row.getD (j + 1) (0, 0)) w
  have hb := pairM_back h1.2.1 h2.2.1 w hxy
  have hl : (row.take j).length = j := by rw [List.length_take]; omega
  have em : movedR row j w = row.take j ++ [x, y] ++ row.drop (j + 2) := by unfold movedR; rw [hxy]
  rw [em]
  have g := getD_mid (c := row.drop (j + 2)) hl x y (0, 0)
  conv => lhs; unfold movedR
  rw [g.1, g.2, hb]
  have t1 : (row.take j ++ [x, y] ++ row.drop (j + 2)).take j = row.take j := by rw [List.append_assoc]; exact take_left hl
  have t2 : (row.take j ++ [x, y] ++ row.drop (j + 2)).drop (j + 2) = row.drop (j + 2) := drop_left (by simp [hl])
  rw [t1, t2]
  exact e.symm
/-- whether a row of n things is told -/
def IsTold (cs : CS) : Prop := cs.io "_law_is_told" = [false, false] ∧ ∀ (n : Nat) (row : List (Int × Int)), RowOk n row → cs.run "_law_is_told" [(.int n, .sh), (lstP row, .sh)] = .ret (.bl true) .full [.none, .none]
theorem isTold_ok {fs : List Fn} (h : Has fs f__law_is_told) {k : Nat} (hw : Wholes (csOf fs k)) : IsTold (csOf fs (k + 1)) := by
  refine ⟨h.io _, fun n row hr => ?_⟩
  rw [show ("_law_is_told" : Str) = f__law_is_told.name from rfl, h.run _ rfl (by decide)]
  generalize csOf fs k = cs at hw
  obtain ⟨iW, rW⟩ := hw
  unfold f__law_is_told lstP
  simp -implicitDefEqProofs
  refine forL_end ((fun d => (d, Lv.full)) ∘ tup2) (fun done e => ∃ s2, e = [Slot.own (.int n) .sh, .none, s2]) row ⟨_, rfl⟩ ?hs ?hk
  case hs =>
    rintro done p rest e hd ⟨s2, rfl⟩
    obtain ⟨h1, h2, h3⟩ := hr p (by rw [← hd]; simp)
    have r1 := rW [p.1, p.2] (by simp)
    obtain ⟨a, b⟩ := p
    unfold tupI at r1
    dsimp only [List.map] at r1 h1 h2 h3
    refine ⟨_, ?_, .own (.tup [.int a, .int b]) .full, rfl⟩
    unfold forF tup2
    simp -implicitDefEqProofs [iW, r1, h1, h2, h3, atI, ixN]
  case hk =>
    rintro e ⟨s2, rfl⟩
    simp -implicitDefEqProofs
end C
end VI
namespace VI
namespace C
open PySem PySem.Spec PyProof.Rows L2
/-! ### orders of rows are orders -/
theorem ledT_ord {n : Nat} {o : List Int} (h : IsOrd n o) {p : Int × Int} (hp : 1 ≤ p.1 ∧ p.1 ≤ n ∧ 1 ≤ p.2 ∧ p.2 ≤ n) : IsOrd n (o.map (ledT p)) := by
  refine ⟨by rw [List.length_map, h.len], ?_, fun g hg => ?_⟩
  · rw [List.nodup_iff_pairwise_ne, List.pairwise_map]
    exact (List.nodup_iff_pairwise_ne.mp h.nd).imp fun hab e => hab (led_inj e)
  · obtain ⟨x, hx, rfl⟩ := List.mem_map.mp hg
    have := h.rg x hx
    unfold ledT
    split
    · omega
    · split <;> omega
/-- a row within n things -/
def RowIn (n : Nat) (row : List (Int × Int)) : Prop := ∀ p ∈ row, 1 ≤ p.1 ∧ p.1 ≤ n ∧ 1 ≤ p.2 ∧ p.2 ≤ n ∧ p.1 ≠ p.2
theorem RowOk.in {n : Nat} {row : List (Int × Int)} (h : RowOk n row) : RowIn n row := fun p hp => by
  have := h p hp
  refine ⟨by omega, by omega, by omega, by omega, by omega⟩
theorem ledR_ord {n : Nat} {row : List (Int × Int)} (h : RowIn n row) : IsOrd n (ledR n row) := by
  unfold ledR
  suffices hh : ∀ (row : List (Int × Int)) (o : List Int), RowIn n row → IsOrd n o → IsOrd n (row.foldl (fun gs p => gs.map (ledT p)) o) from hh row _ h (upTo_ord n)
  intro row
  induction row with
  | nil => intro o _ ho; exact ho
  | cons p r ih =>
    intro o hr ho
    have := hr p List.mem_cons_self
    exact ih _ (fun q hq => hr q (List.mem_cons_of_mem _ hq)) (ledT_ord ho ⟨this.1, this.2.1, this.2.2.1, this.2.2.2.1⟩)
theorem ord_map {n : Nat} {o : List Int} (h : o.length = n) : (C.upTo n).map (nth1 o) = o := by
  refine List.ext_getElem (by rw [List.length_map, upTo_len, h]) fun i h1 h2 => ?_
  rw [List.getElem_map]
  unfold C.upTo rangeI
  rw [List.getElem_map, List.getElem_range]
  unfold nth1
  rw [show ((1 : Int) + (i : Nat) * 1 - 1).toNat = i by omega]
  exact getD_at h2 0
/-! ### star rows -/
def starOf (c : List Int) : List (Int × Int) := c.tail.map fun t => (c.headD 0, t)
def starR (o : List Int) : List (Int × Int) := (rnds o).flatMap starOf
theorem cycF_head (o : List Int) (f : Int) : ∀ (m : Nat) (g : Int), Ret o f m g → (cycF o f m g).headD f = g
  | 0, g, h => h.symm
  | m + 1, g, h => by
    unfold cycF
    split
    · rename_i e; exact e.symm
    · rfl
theorem ray_stay {f t : Int} (hf : t ≠ f) : ∀ {r : List Int}, t ∉ r → follow (r.map fun x => (f, x)) t = t
  | [], _ => rfl
  | c :: r, h => by
    have h1 : t ≠ c := fun e => h (e ▸ List.mem_cons_self)
    show follow (r.map fun x => (f, x)) (ledT (f, c) t) = t
    have : ledT (f, c) t = t := by unfold ledT; rw [if_neg hf, if_neg h1]
    rw [this]
    exact ray_stay hf fun z => h (List.mem_cons_of_mem _ z)
theorem ray_first {f : Int} : ∀ {r : List Int}, f ∉ r → r.Nodup → follow (r.map fun x => (f, x)) f = r.headD f
  | [], _, _ => rfl
  | c :: r, h, hn => by
    have h1 : c ≠ f := fun e => h (e ▸ List.mem_cons_self)
    show follow (r.map fun x => (f, x)) (ledT (f, c) f) = c
    have : ledT (f, c) f = c := by unfold ledT; rw [if_pos rfl]
    rw [this]
    exact ray_stay h1 (List.nodup_cons.mp hn).1
theorem ray_on (o : List Int) (f : Int) : ∀ (m : Nat) (g : Int), Ret o f m g → f ∉ cycF o f m g → (cycF o f m g).Nodup → ∀ t ∈ cycF o f m g, follow ((cycF o f m g).map fun x => (f, x)) t = nth1 o t
  | 0, g, _, _, _ => fun t ht => by cases ht
  | m + 1, g, hr, hf, hn => fun t ht => by
    unfold cycF at hf hn ht ⊢
    by_cases e : g = f
    · rw [if_pos e] at ht; cases ht
    · rw [if_neg e] at hf hn ht ⊢
      have hr' : Ret o f m (nth1 o g) := by
        rcases hr with hr | hr
        · exact absurd hr e
        · exact hr
      obtain ⟨n1, n2⟩ := List.nodup_cons.mp hn
      have hf' : f ∉ cycF o f m (nth1 o g) := fun z => hf (List.mem_cons_of_mem _ z)
      show follow ((cycF o f m (nth1 o g)).map fun x => (f, x)) (ledT (f, g) t) = nth1 o t
      rcases List.mem_cons.mp ht with rfl | ht
      · have : ledT (f, t) t = f := by unfold ledT; rw [if_neg e, if_pos rfl]
        rw [this, ray_first hf' n2, cycF_head o f m _ hr']
      · have h1 : t ≠ g := fun z => n1 (z ▸ ht)
        have h2 : t ≠ f := fun z => hf' (z ▸ ht)
        have : ledT (f, g) t = t := by unfold ledT; rw [if_neg h2, if_neg h1]
        rw [this]
        exact ray_on o f m _ hr' hf' n2 t ht
section
variable {n : Nat} {o : List Int}
theorem star_on (h : IsOrd n o) {f : Int} (hf : 1 ≤ f ∧ f ≤ n) {t : Int} (ht : t ∈ cyc o f) : follow (starOf (cyc o f)) t = nth1 o t := by
  have hn := cyc_nodup h hf
  unfold cyc at hn ht ⊢
  obtain ⟨n1, n2⟩ := List.nodup_cons.mp hn
  have hr := h.ret hf
  rw [h.len] at *
  show follow ((cycF o f n (nth1 o f)).map fun x => (f, x)) t = nth1 o t
  rcases List.mem_cons.mp ht with rfl | ht
  · rw [ray_first n1 n2, cycF_head o t n _ hr]
  · exact ray_on o f n _ hr n1 n2 t ht
theorem star_off {c : List Int} {t : Int} (hc : c ≠ []) (ht : t ∉ c) : follow (starOf c) t = t := by
  cases c with
  | nil => exact absurd rfl hc
  | cons f r => exact ray_stay (fun e : t = f => ht (by rw [e]; exact List.mem_cons_self)) fun z => ht (List.mem_cons_of_mem _ z)
theorem stars_off : ∀ {cs : List (List Int)} {t : Int}, (∀ c ∈ cs, c ≠ []) → t ∉ cs.flatten → follow (cs.flatMap starOf) t = t
  | [], t, _, _ => rfl
  | c :: cs, t, hc, ht => by
    rw [List.flatMap_cons, follow_app]
    rw [List.flatten_cons, List.mem_append, not_or] at ht
    rw [star_off (hc c List.mem_cons_self) ht.1]
    exact stars_off (fun d hd => hc d (List.mem_cons_of_mem _ hd)) ht.2
theorem stars_on (h : IsOrd n o) : ∀ {cs : List (List Int)} {t : Int}, (∀ c ∈ cs, ∃ f : Int, (1 ≤ f ∧ f ≤ n) ∧ c = cyc o f) → cs.flatten.Nodup → t ∈ cs.flatten → follow (cs.flatMap starOf) t = nth1 o t
  | [], t, _, _, ht => by simp at ht
  | c :: cs, t, hc, hn, ht => by
    rw [List.flatMap_cons, follow_app]
    rw [List.flatten_cons] at hn ht
    obtain ⟨n1, n2, n3⟩ := List.nodup_append.mp hn
    obtain ⟨f, hf, rfl⟩ := hc c List.mem_cons_self
    have hne : ∀ d ∈ cs, d ≠ [] := fun d hd e => by
      obtain ⟨g, _, rfl⟩ := hc d (List.mem_cons_of_mem _ hd)
      cases e
    by_cases hm : t ∈ cyc o f
    · rw [star_on h hf hm]
      exact stars_off hne fun z => n3 _ (cyc_fwd h hf hm) _ z rfl
    · rw [star_off (by unfold cyc; simp) hm]
      refine stars_on h (fun d hd => hc d (List.mem_cons_of_mem _ hd)) n2 ?_
      rcases List.mem_append.mp ht with z | z
      · exact absurd z hm
      · exact z
theorem starR_follow (h : IsOrd n o) {t : Int} (ht : 1 ≤ t ∧ t ≤ n) : follow (starR o) t = nth1 o t := by
  have r := rnds_ok h
  exact stars_on h r.is r.nd (r.cov t (upTo_mem.mpr ht))
theorem starR_led (h : IsOrd n o) : (C.upTo n).map (follow (starR o)) = o := by
  conv => rhs; rw [← ord_map h.len]
  exact List.map_congr_left fun t ht => starR_follow h (upTo_mem.mp ht)
theorem starR_in (h : IsOrd n o) : RowIn n (starR o) := fun p hp => by
  obtain ⟨c, hc, hp⟩ := List.mem_flatMap.mp hp
  obtain ⟨f, hf, rfl⟩ := (rnds_ok h).is c hc
  obtain ⟨t, ht, rfl⟩ := List.mem_map.mp hp
  have hn := cyc_nodup h hf
  have hi := cyc_in h hf
  unfold cyc at *
  have := hi t (List.mem_cons_of_mem _ ht)
  refine ⟨hf.1, hf.2, this.1, this.2, fun e => ?_⟩
  have e' : f = t := e
  exact (List.nodup_cons.mp hn).1 (e' ▸ ht)
theorem starR_len (h : IsOrd n o) : (starR o).length + (rnds o).length = n := by
  have h1 := rnds_flat_len h
  have h2 : ∀ cs : List (List Int), (∀ c ∈ cs, c ≠ []) → (cs.flatMap starOf).length + cs.length = cs.flatten.length := by
    intro cs
    induction cs with
    | nil => intro _; rfl
    | cons c cs ih =>
      intro hc
      have h3 := ih fun d hd => hc d (List.mem_cons_of_mem _ hd)
      have h4 := List.length_pos_iff.mpr (hc c List.mem_cons_self)
      have h5 : (starOf c).length = c.length - 1 := by simp [starOf]
      simp only [List.length_cons, List.flatten_cons, List.length_append, List.flatMap_cons]
      omega
  have := h2 (rnds o) fun c hc e => by
    obtain ⟨f, _, rfl⟩ := (rnds_ok h).is c hc
    cases e
  show ((rnds o).flatMap starOf).length + (rnds o).length = n
  omega
end
end C
end VI
namespace VI
open PySem PySem.Spec PyProof.Rows L2
@[simp] theorem closed_lt (ds : List D) : closed (.lst ds) .top = false := rfl
@[simp] theorem closed_ls (ds : List D) : closed (.lst ds) .sh = false := rfl
@[simp] theorem shareAll_nil (e : Env) : shareAll e [] = e := rfl
def shareS (e : Env) (i : Nat) (is : List Nat) : Slot → Env
  | .own d _ => shareAll (e.set i (.own d .sh)) is
  | .none => shareAll e is
@[simp] theorem shareS_o (e : Env) (i : Nat) (is : List Nat) (d : D) (l : Lv) : shareS e i is (.own d l) = shareAll (e.set i (.own d .sh)) is := rfl
@[simp] theorem shareAll_cons (e : Env) (i : Nat) (is : List Nat) : shareAll e (i :: is) = shareS e i is (gt e i) := by
  unfold shareS
  show shareAll (match gt e i with | .own d _ => e.set i (.own d .sh) | .none => e) is = _
  cases gt e i <;> rfl
namespace C
theorem swap_getN (e : Env) {a b : Int} (h : a ≠ b) (g : Int) : getO e (.int g) (dlookK (.inl g) (dputK (.inl b) (.int a) (dputK (.inl a) (.int b) []))) = .ok (.tmp (.int (ledT (a, b) g)) .full) e := by
  rw [dlook_putV, dlook_putV]
  unfold ledT
  by_cases e1 : g = a
  · subst e1
    have : ¬ (Sum.inl b : Key) = .inl g := fun z => h (by injection z with z; exact z.symm)
    rw [if_neg this, if_pos rfl]
    simp
  · by_cases e2 : g = b
    · subst e2
      rw [if_pos rfl]
      simp [e1]
    · have h3 : ¬ (Sum.inl b : Key) = .inl g := fun z => e2 (by injection z with z; exact z.symm)
      have h4 : ¬ (Sum.inl a : Key) = .inl g := fun z => e1 (by injection z with z; exact z.symm)
      rw [if_neg h3, if_neg h4]
      show getO e (.int g) none = _
      simp [e1, e2]
def LawLedN (cs : CS) : Prop := cs.io "_law_led" = [false, false] ∧ ∀ (n : Nat) (row : List (Int × Int)), n ≤ 1000 → (∀ p ∈ row, p.1 ≠ p.2) → cs.run "_law_led" [(.int n, .sh), (lstP row, .sh)] = .ret (tupI ((C.upTo n).map (follow row))) .full [.none, .none]
theorem lawLedN_ex (cs : CS) (n : Nat) (row : List (Int × Int)) (hn : n ≤ 1000) (hr : ∀ p ∈ row, p.1 ≠ p.2) : endOf f__law_led (execs cs f__law_led.body (startE f__law_led [(.int n, .sh), (lstP row, .sh)])) = .ret (tupI ((C.upTo n).map (follow row))) .full [.none, .none] := by
  have hrg := range_up 1 (n + 1) (by omega)
  have e : ((n : Int) + 1 - 1).toNat = n := by omega
  rw [e] at hrg
  unfold f__law_led tupI lstP
  simp -implicitDefEqProofs [hrg]
  refine forL_end ((fun d => (d, Lv.full)) ∘ D.int) (fun done e => ∃ s3 s4 s5 s6, e = [Slot.own (.int n) .sh, .own (.lst (row.map tup2)) .sh, .own (.lst ((done.map (follow row)).map D.int)) .full, s3, s4, s5, s6]) (rangeI 1 n 1) ⟨_, _, _, _, rfl⟩ ?hs ?hk
  case hs =>
    rintro done t rest e hd ⟨s3, s4, s5, s6, rfl⟩
    have hlen : done.length < sizeLine := by
      have h1 := congrArg List.length hd
      simp [rangeI] at h1
      have := line1000
      omega
    unfold forF
    simp -implicitDefEqProofs
    refine forL_nx ((fun d => (d, Lv.full)) ∘ tup2) (fun dn e => ∃ s5 s6, e = [Slot.own (.int n) .sh, .own (.lst (row.map tup2)) .sh, .own (.lst ((done.map (follow row)).map D.int)) .full, .none, .own (.int (follow dn t)) .full, s5, s6]) row ⟨s5, s6, by simp [follow]⟩ ?hs2 ?hk2
    case hs2 =>
      rintro dn p rs e hp ⟨s5, s6, rfl⟩
      obtain ⟨a, b⟩ := p
      have hab : a ≠ b := hr (a, b) (by rw [← hp]; simp)
      unfold forF tup2
      refine ⟨_, ?_, .own (.int a) .full, .own (.int b) .full, rfl⟩
      simp -implicitDefEqProofs [swap_getN _ hab, follow_snoc]
    case hk2 =>
      rintro e ⟨s5, s6, rfl⟩
      refine ⟨_, ?_, .none, .none, s5, s6, rfl⟩
      simp -implicitDefEqProofs [hlen]
  case hk =>
    rintro e ⟨s3, s4, s5, s6, rfl⟩
    simp -implicitDefEqProofs
    rfl
theorem lawLedN1 {fs : List Fn} (h : Has fs f__law_led) (k : Nat) : LawLedN (csOf fs (k + 1)) := by
  refine ⟨h.io _, fun n row hn hr => ?_⟩
  rw [show ("_law_led" : Str) = f__law_led.name from rfl, h.run k rfl (by decide)]
  exact lawLedN_ex _ n row hn hr
theorem lawLedN2 {fs : List Fn} (h : Has fs f__law_led_2) (k : Nat) : LawLedN (csOf fs (k + 1)) := by
  refine ⟨h.io _, fun n row hn hr => ?_⟩
  rw [show ("_law_led" : Str) = f__law_led_2.name from rfl, h.run k rfl (by decide)]
  have e1 : ∀ r, endOf f__law_led_2 r = endOf f__law_led r := fun r => rfl
  have e2 : f__law_led_2.body = f__law_led.body := by kernel_rfl
  have e3 : ∀ as, startE f__law_led_2 as = startE f__law_led as := fun as => rfl
  rw [e1, e2, e3]
  exact lawLedN_ex _ n row hn hr
/-! ### star, is_least -/
theorem cut1 {α : Type} (xs : List α) : cutD xs (some 1) none = xs.drop 1 := cutD_from xs 1
def Star (cs : CS) : Prop := cs.io "star" = [false] ∧ ∀ (n : Nat) (o : List Int), IsOrd n o → 1 ≤ n → n ≤ 100 → cs.run "star" [(tupI o, .sh)] = .ret (lstP (starR o)) .full [.none]
theorem starOf_len {n : Nat} {o : List Int} (h : IsOrd n o) {f : Int} : (starOf (cyc o f)).length ≤ n := by
  have := cycF_len o f o.length (nth1 o f)
  rw [h.len] at this
  show ((cycF o f o.length (nth1 o f)).map fun t => (f, t)).length ≤ n
  rw [List.length_map, h.len]; exact this
theorem stars_len {n : Nat} {o : List Int} (h : IsOrd n o) : ∀ {cs : List (List Int)}, (∀ c ∈ cs, ∃ f : Int, (1 ≤ f ∧ f ≤ n) ∧ c = cyc o f) → (cs.flatMap starOf).length ≤ cs.length * n
  | [], _ => by simp
  | c :: cs, hc => by
    obtain ⟨f, _, rfl⟩ := hc _ List.mem_cons_self
    have h1 := starOf_len h (f := f)
    have h2 := stars_len h fun d hd => hc d (List.mem_cons_of_mem _ hd)
    rw [List.flatMap_cons, List.length_append, List.length_cons, Nat.succ_mul]
    omega
theorem flat_snoc (dn : List (List Int)) (c : List Int) : (dn ++ [c]).flatMap starOf = dn.flatMap starOf ++ starOf c := by simp
theorem star_ok {fs : List Fn} (h : Has fs f_star) {k : Nat} (hR : Rounds (csOf fs k)) : Star (csOf fs (k + 1)) := by
  refine ⟨h.io _, fun n o ho hn1 hn => ?_⟩
  rw [show ("star" : Str) = f_star.name from rfl, h.run _ rfl (by decide)]
  have hl := ho.len
  generalize csOf fs k = cs at *
  obtain ⟨iR, rR⟩ := hR
  have r1 := rR n o ho hn1 hn
  have hrn := rnds_len_le ho
  have his := (rnds_ok ho).is
  unfold starR lstP
  unfold tupI lstL at *
  generalize hcs : rnds o = cs0 at *
  have hne : cs0 ≠ [] := fun e => by
    subst e
    have := rnds_flat_len ho
    rw [hcs] at this
    simp at this
    omega
  have im : immL (cs0.map fun k => D.lst (k.map D.int)) = false := by
    cases cs0 with
    | nil => exact absurd rfl hne
    | cons c r => rfl
  have key : ∃ e', forL (forF cs (.nm 2) (.cons (.ext 1 (.comp (.nm 3) [3] (.val (.slc (.var 2) (.so (.int 1)) .no)) .no (.tup (.cons (.sub (.var 2) (.int 0)) (.cons (.mov 3) .nil))))) .nil)) (cs0.map fun k => (D.lst (k.map D.int), Lv.sh)) [Slot.own (.tup (o.map .int)) .sh, .own (.lst []) .full, .none, .none] = .nx e' ∧
      ∃ s2 s3, e' = [Slot.own (.tup (o.map .int)) .sh, .own (.lst ((cs0.flatMap starOf).map tup2)) .full, s2, s3] := by
    refine forL_inv (fun k => (D.lst (k.map D.int), Lv.sh)) (fun dn e => ∃ s2, e = [Slot.own (.tup (o.map .int)) .sh, .own (.lst ((dn.flatMap starOf).map tup2)) .full, s2, .none]) cs0 cs0 [] _ rfl ⟨_, rfl⟩ ?_ |> fun ⟨e', h1, s2, h2⟩ => ⟨e', h1, s2, _, h2⟩
    rintro dn c rs e hp ⟨s2, rfl⟩
    obtain ⟨f, hf, rfl⟩ := his c (by rw [← hp]; simp)
    have hdl := congrArg List.length hp
    rw [List.length_append, List.length_cons] at hdl
    have hcl := cyc_len ho f
    have hsl := stars_len ho (cs := dn) fun d hd => his d (by rw [← hp]; exact List.mem_append_left _ hd)
    have hmul : dn.length * n ≤ 100 * 100 := Nat.mul_le_mul (by omega) hn
    have h0 : atI ((cyc o f).map D.int) 0 = some (.int f) := by unfold cyc; simp [atI, ixN]
    have htl : (cyc o f).map D.int = .int f :: (cycF o f o.length (nth1 o f)).map D.int := by unfold cyc; rfl
    have hst : starOf (cyc o f) = (cycF o f o.length (nth1 o f)).map fun t => (f, t) := rfl
    have hcl2 : (cyc o f).length = (cycF o f o.length (nth1 o f)).length + 1 := by unfold cyc; rfl
    rw [flat_snoc, hst]
    refine ⟨[Slot.own (.tup (o.map .int)) .sh, .own (.lst ((dn.flatMap starOf ++ (cycF o f o.length (nth1 o f)).map fun t => (f, t)).map tup2)) .full, .own (.lst ((cyc o f).map .int)) .sh, .none], ?_, .own (.lst ((cyc o f).map .int)) .sh, rfl⟩
    generalize cycF o f o.length (nth1 o f) = L at *
    generalize dn.flatMap starOf = S at *
    have z1 : 0 + L.length ≤ sizeLine := Nat.le_of_lt (line5 (by omega))
    have z2 : S.length + L.length ≤ sizeLine := Nat.le_of_lt (line5 (by omega))
    have cm : ∀ s1, compL (compF cs (.nm 3) [3] .no (.tup (.cons (.sub (.var 2) (.int 0)) (.cons (.mov 3) .nil)))) 0 (L.map fun x => (D.int x, Lv.full)) [Slot.own (.tup (o.map .int)) .sh, s1, .own (.lst (.int f :: L.map .int)) .sh, .none] = .ok (L.map fun t => (tup2 (f, t), Lv.full)) [Slot.own (.tup (o.map .int)) .sh, s1, .own (.lst (.int f :: L.map .int)) .sh, .none] := fun s1 => by
      refine compL_map (fun x => (D.int x, Lv.full)) (fun t => (tup2 (f, t), Lv.full)) _ _ _ z1 fun t ht => ?_
      unfold compF
      simp -implicitDefEqProofs [atI, ixN, tup2]
    rw [forF_K]
    simp -implicitDefEqProofs [htl, cut1, cm, z2, Function.comp_def]
  obtain ⟨e', h1, s2, s3, rfl⟩ := key
  unfold f_star
  have lk : lvK (cs0.map fun k => D.lst (k.map D.int)) .top = .sh := by unfold lvK; rw [im]; rfl
  simp -implicitDefEqProofs [iR, r1, im, h1, lk, Function.comp_def]
def IsLeast (cs : CS) : Prop := cs.io "is_least" = [false, false] ∧ ∀ (n : Nat) (row : List (Int × Int)), RowIn n row → 1 ≤ n → n ≤ 100 → cs.run "is_least" [(.int n, .sh), (lstP row, .sh)] = .ret (.bl (decide (row.length + (rnds (ledR n row)).length = n))) .full [.none, .none]
theorem isLeast_ok {fs : List Fn} (h : Has fs f_is_least) {k : Nat} (hR : Rounds (csOf fs k)) (hL : Led (csOf fs k)) : IsLeast (csOf fs (k + 1)) := by
  refine ⟨h.io _, fun n row hr hn1 hn => ?_⟩
  rw [show ("is_least" : Str) = f_is_least.name from rfl, h.run _ rfl (by decide)]
  generalize csOf fs k = cs at *
  obtain ⟨iR, rR⟩ := hR
  obtain ⟨iL, rL⟩ := hL
  have r1 := rL n row (by omega)
  have ho := ledR_ord hr
  have r2 := rR n _ ho hn1 hn
  generalize ledR n row = o at *
  have hle := rnds_len_le ho
  have e : ((row.length : Int) = (n : Int) - ((rnds o).length : Int)) = (row.length + (rnds o).length = n) := by
    apply propext; omega
  unfold f_is_least
  unfold lstP tupI lstL at *
  simp -implicitDefEqProofs [iR, iL, r1, r2, e]
end C
end VI
namespace VI
namespace C
open PySem PySem.Spec PyProof.Rows L2
open Classical in
/-! ### how many rounds -/
/-- the least thing of its round -/
def Mn (o : List Int) (t : Int) : Prop := ∀ k, t ≤ stepN o k t
noncomputable def mnB (o : List Int) (t : Int) : Bool := @decide (Mn o t) (Classical.propDecidable _)
theorem mnB_iff {o : List Int} {t : Int} : mnB o t = true ↔ Mn o t := by unfold mnB; exact @decide_eq_true_iff _ (Classical.propDecidable _)
theorem count_one {α : Type} {P Q : α → Bool} : ∀ {L : List α} {m : α}, L.Nodup → m ∈ L → P m = false → Q m = true → (∀ t ∈ L, t ≠ m → P t = Q t) → L.countP Q = L.countP P + 1
  | [], m, _, hm, _, _, _ => by cases hm
  | x :: L, m, hn, hm, hp, hq, h => by
    obtain ⟨n1, n2⟩ := List.nodup_cons.mp hn
    by_cases e : x = m
    · subst e
      have : L.countP Q = L.countP P := List.countP_congr fun t ht => by
        rw [h t (List.mem_cons_of_mem _ ht) fun z => n1 (z ▸ ht)]
      rw [List.countP_cons_of_pos hq, List.countP_cons_of_neg (by rw [hp]; simp), this]
    · have hm' : m ∈ L := by
        rcases List.mem_cons.mp hm with z | z
        · exact absurd z.symm e
        · exact z
      have ih := count_one n2 hm' hp hq fun t ht => h t (List.mem_cons_of_mem _ ht)
      have hx := h x List.mem_cons_self e
      cases hc : Q x with
      | true => rw [List.countP_cons_of_pos hc, List.countP_cons_of_pos (by rw [hx, hc]), ih]
      | false => rw [List.countP_cons_of_neg (by rw [hc]; simp), List.countP_cons_of_neg (by rw [hx, hc]; simp), ih]
theorem exists_min : ∀ (S : List Int), S ≠ [] → ∃ m ∈ S, ∀ y ∈ S, m ≤ y
  | [], h => absurd rfl h
  | [x], _ => ⟨x, List.mem_cons_self, fun y hy => by rw [List.mem_singleton.mp hy]; exact Int.le_refl _⟩
  | x :: y :: r, _ => by
    obtain ⟨m, h1, h2⟩ := exists_min (y :: r) (by simp)
    by_cases h : x ≤ m
    · refine ⟨x, List.mem_cons_self, fun z hz => ?_⟩
      rcases List.mem_cons.mp hz with rfl | hz
      · exact Int.le_refl _
      · have := h2 z hz; omega
    · refine ⟨m, List.mem_cons_of_mem _ h1, fun z hz => ?_⟩
      rcases List.mem_cons.mp hz with rfl | hz
      · omega
      · exact h2 z hz
section
variable {n : Nat} {o : List Int}
/-- what is reached from c within q steps, q steps leading home -/
def orb (o : List Int) (c : Int) (q : Nat) : List Int := (List.range q).map fun i => stepN o i c
theorem orb_fwd {c : Int} {q : Nat} (hq : 1 ≤ q) (h : stepN o q c = c) {g : Int} (hg : g ∈ orb o c q) : nth1 o g ∈ orb o c q := by
  obtain ⟨i, hi, rfl⟩ := List.mem_map.mp hg
  have hi := List.mem_range.mp hi
  rw [← stepN_succ]
  by_cases e : i + 1 = q
  · rw [e, h]; exact List.mem_map.mpr ⟨0, List.mem_range.mpr (by omega), rfl⟩
  · exact List.mem_map.mpr ⟨i + 1, List.mem_range.mpr (by omega), rfl⟩
theorem orb_steps {c : Int} {q : Nat} (hq : 1 ≤ q) (h : stepN o q c = c) : ∀ (k : Nat) {g : Int}, g ∈ orb o c q → stepN o k g ∈ orb o c q
  | 0, _, hg => hg
  | k + 1, _, hg => orb_steps hq h k (orb_fwd hq h hg)
theorem orb_reach {c : Int} {q : Nat} (hq : 1 ≤ q) (h : stepN o q c = c) {g y : Int} (hg : g ∈ orb o c q) (hy : y ∈ orb o c q) : ∃ k, stepN o k g = y := by
  obtain ⟨i, hi, rfl⟩ := List.mem_map.mp hg
  obtain ⟨j, hj, rfl⟩ := List.mem_map.mp hy
  have hi := List.mem_range.mp hi
  refine ⟨(q - i) + j, ?_⟩
  rw [stepN_add, ← stepN_add o i (q - i), show i + (q - i) = q by omega, h]
theorem mn_orb {c : Int} {q : Nat} (hq : 1 ≤ q) (h : stepN o q c = c) {g : Int} (hg : g ∈ orb o c q) : Mn o g ↔ ∀ y ∈ orb o c q, g ≤ y := by
  constructor
  · intro hm y hy
    obtain ⟨k, rfl⟩ := orb_reach hq h hg hy
    exact hm k
  · intro hm k
    exact hm _ (orb_steps hq h k hg)
theorem orb_self {c : Int} {q : Nat} (hq : 1 ≤ q) : c ∈ orb o c q := List.mem_map.mpr ⟨0, List.mem_range.mpr (by omega), rfl⟩
theorem cyc_orb (h : IsOrd n o) {f : Int} (hf : 1 ≤ f ∧ f ≤ n) : ∃ p, 1 ≤ p ∧ p ≤ n ∧ stepN o p f = f ∧ (∀ q, 1 ≤ q → q < p → stepN o q f ≠ f) ∧ cyc o f = orb o f p := by
  obtain ⟨p, h0, h1, h2, h3⟩ := period h hf
  exact ⟨p, h0, h1, h2, h3, cyc_range h h0 h1 h2 h3⟩
theorem nth1_map {f : Int → Int} {g : Int} (h : o.length = n) (hg : 1 ≤ g ∧ g ≤ n) : nth1 (o.map f) g = f (nth1 o g) := by
  unfold nth1
  rw [getD_at (by rw [List.length_map]; omega), getD_at (by omega), List.getElem_map]
/-- an exchange of two things of one round makes one round more -/
theorem cut_count (h : IsOrd n o) {a b : Int} (ha : 1 ≤ a ∧ a ≤ n) (hb : b ∈ cyc o a) (hab : a ≠ b) : (C.upTo n).countP (mnB (o.map (ledT (a, b)))) = (C.upTo n).countP (mnB o) + 1 := by
  obtain ⟨p, h0, h1, h2, h3, h4⟩ := cyc_orb h ha
  have hbr := cyc_in h ha b hb
  have ho' : IsOrd n (o.map (ledT (a, b))) := ledT_ord h ⟨ha.1, ha.2, hbr.1, hbr.2⟩
  have nx : ∀ g : Int, 1 ≤ g ∧ g ≤ n → nth1 (o.map (ledT (a, b))) g = ledT (a, b) (nth1 o g) := fun g hg => nth1_map h.len hg
  rw [h4] at hb
  obtain ⟨j, hj, rfl⟩ := List.mem_map.mp hb
  have hj := List.mem_range.mp hj
  have hj0 : 1 ≤ j := by
    rcases Nat.eq_zero_or_pos j with rfl | z
    · exact absurd rfl hab
    · exact z
  generalize ho2 : o.map (ledT (a, stepN o j a)) = o' at *
  have inj : ∀ i k, i < p → k < p → stepN o i a = stepN o k a → i = k := by
    intro i k hi hk e
    rcases Nat.lt_trichotomy i k with z | z | z
    · have e2 : k = (k - i) + i := by omega
      rw [e2, stepN_add] at e
      exact absurd (stepN_inj h i ha (stepN_in h (k - i) ha) e).symm (h3 (k - i) (by omega) (by omega))
    · exact z
    · have e2 : i = (i - k) + k := by omega
      rw [e2, stepN_add] at e
      exact absurd (stepN_inj h k (stepN_in h (i - k) ha) ha e) (h3 (i - k) (by omega) (by omega))
  -- the first part
  have s1 : ∀ i, i < j → stepN o' i a = stepN o i a := by
    intro i
    induction i with
    | zero => intro _; rfl
    | succ i ih =>
      intro hi
      rw [stepN_succ, stepN_succ, ih (by omega), nx _ (stepN_in h i ha), ← stepN_succ]
      unfold ledT
      rw [if_neg (fun e => by have := inj (i + 1) 0 (by omega) (by omega) e; omega), if_neg (fun e => by have := inj (i + 1) j (by omega) (by omega) e; omega)]
  have e1 : stepN o' j a = a := by
    obtain ⟨i, rfl⟩ : ∃ i, j = i + 1 := ⟨j - 1, by omega⟩
    rw [stepN_succ, s1 i (by omega), nx _ (stepN_in h i ha), ← stepN_succ]
    unfold ledT
    rw [if_neg (fun e => hab e.symm), if_pos rfl]
  -- the other part
  have s2 : ∀ i, i < p - j → stepN o' i (stepN o j a) = stepN o (j + i) a := by
    intro i
    induction i with
    | zero => intro _; rfl
    | succ i ih =>
      intro hi
      rw [stepN_succ, ih (by omega), nx _ (stepN_in h _ ha), ← stepN_succ]
      unfold ledT
      rw [if_neg (fun e => by have := inj (j + i + 1) 0 (by omega) (by omega) e; omega), if_neg (fun e => by have := inj (j + i + 1) j (by omega) (by omega) e; omega)]
      rfl
  have e2 : stepN o' (p - j) (stepN o j a) = stepN o j a := by
    obtain ⟨i, hi⟩ : ∃ i, p - j = i + 1 := ⟨p - j - 1, by omega⟩
    rw [hi, stepN_succ, s2 i (by omega), nx _ (stepN_in h _ ha), ← stepN_succ, show j + i + 1 = p by omega, h2]
    unfold ledT
    rw [if_pos rfl]
  have hS1 : ∀ x, x ∈ orb o' a j ↔ ∃ i, i < j ∧ stepN o i a = x := fun x => by
    constructor
    · intro hx
      obtain ⟨i, hi, rfl⟩ := List.mem_map.mp hx
      exact ⟨i, List.mem_range.mp hi, (s1 i (List.mem_range.mp hi)).symm⟩
    · rintro ⟨i, hi, rfl⟩
      exact List.mem_map.mpr ⟨i, List.mem_range.mpr hi, s1 i hi⟩
  have hS2 : ∀ x, x ∈ orb o' (stepN o j a) (p - j) ↔ ∃ i, j ≤ i ∧ i < p ∧ stepN o i a = x := fun x => by
    constructor
    · intro hx
      obtain ⟨i, hi, rfl⟩ := List.mem_map.mp hx
      have hi := List.mem_range.mp hi
      exact ⟨j + i, by omega, by omega, (s2 i hi).symm⟩
    · rintro ⟨i, hi, hi2, rfl⟩
      exact List.mem_map.mpr ⟨i - j, List.mem_range.mpr (by omega), by show stepN o' (i - j) (stepN o j a) = stepN o i a; rw [s2 (i - j) (by omega), show j + (i - j) = i by omega]⟩
  have hS : ∀ x, x ∈ orb o a p ↔ (x ∈ orb o' a j ∨ x ∈ orb o' (stepN o j a) (p - j)) := fun x => by
    rw [hS1, hS2]
    constructor
    · intro hx
      obtain ⟨i, hi, rfl⟩ := List.mem_map.mp hx
      have hi := List.mem_range.mp hi
      by_cases z : i < j
      · exact .inl ⟨i, z, rfl⟩
      · exact .inr ⟨i, by omega, hi, rfl⟩
    · rintro (⟨i, hi, rfl⟩ | ⟨i, _, hi, rfl⟩)
      · exact List.mem_map.mpr ⟨i, List.mem_range.mpr (by omega), rfl⟩
      · exact List.mem_map.mpr ⟨i, List.mem_range.mpr hi, rfl⟩
  have disj : ∀ x, x ∈ orb o' a j → x ∈ orb o' (stepN o j a) (p - j) → False := fun x hx hy => by
    obtain ⟨i, hi, rfl⟩ := (hS1 x).mp hx
    obtain ⟨k, hk, hk2, e⟩ := (hS2 _).mp hy
    have := inj k i hk2 (by omega) e
    omega
  -- elsewhere nothing changes
  have off : ∀ (k : Nat) (x : Int), 1 ≤ x ∧ x ≤ n → x ∉ orb o a p → stepN o' k x = stepN o k x := by
    intro k
    induction k with
    | zero => intro x _ _; rfl
    | succ k ih =>
      intro x hx hn
      have hn2 : nth1 o x ∉ orb o a p := fun z => hn (by rw [← h4] at z ⊢; exact cyc_bwd h ha hx z)
      have e : nth1 o' x = nth1 o x := by
        rw [nx x hx]
        unfold ledT
        rw [if_neg (fun e => hn2 (by rw [e]; exact orb_self h0)), if_neg (fun e => hn2 (by rw [e]; exact List.mem_map.mpr ⟨j, List.mem_range.mpr hj, rfl⟩))]
      show stepN o' k (nth1 o' x) = stepN o k (nth1 o x)
      rw [e]
      exact ih _ (h.at hx) hn2
  have ne1 : orb o' a j ≠ [] := fun e => by have := orb_self (o := o') (c := a) hj0; rw [e] at this; cases this
  have hpj : 1 ≤ p - j := by omega
  have ne2 : orb o' (stepN o j a) (p - j) ≠ [] := fun e => by have := orb_self (o := o') (c := stepN o j a) hpj; rw [e] at this; cases this
  obtain ⟨m1, k1, l1⟩ := exists_min _ ne1
  obtain ⟨m2, k2, l2⟩ := exists_min _ ne2
  have hm12 : m1 ≠ m2 := fun e => disj m1 k1 (e ▸ k2)
  have rng : ∀ x, x ∈ orb o a p → 1 ≤ x ∧ x ≤ (n : Int) := fun x hx => by rw [← h4] at hx; exact cyc_in h ha x hx
  -- the greater one of the two least ones counts anew
  have main : ∀ m, (m ∈ orb o a p) → (Mn o' m) → (∃ y ∈ orb o a p, y < m) → (∀ t, t ∈ orb o a p → t ≠ m → (Mn o t ↔ Mn o' t)) → (C.upTo n).countP (mnB o') = (C.upTo n).countP (mnB o) + 1 := fun m hm hm1 ⟨y, hy, hym⟩ hall => by
    refine count_one (m := m) (upTo_nodup n) (upTo_mem.mpr (rng m hm)) ?_ (mnB_iff.mpr hm1) fun t ht htm => ?_
    · cases hc : mnB o m with
      | false => rfl
      | true =>
        have := (mn_orb h0 h2 hm).mp (mnB_iff.mp hc) y hy
        omega
    · have hiff : Mn o t ↔ Mn o' t := by
        by_cases hx : t ∈ orb o a p
        · exact hall t hx htm
        · unfold Mn
          constructor
          · intro z k; rw [off k t (upTo_mem.mp ht) hx]; exact z k
          · intro z k; rw [← off k t (upTo_mem.mp ht) hx]; exact z k
      cases hc : mnB o' t with
      | true => exact mnB_iff.mpr (hiff.mpr (mnB_iff.mp hc))
      | false =>
        cases hd : mnB o t with
        | false => rfl
        | true => rw [mnB_iff.mpr (hiff.mp (mnB_iff.mp hd))] at hc; cases hc
  have i1 : ∀ t, t ∈ orb o' a j → (Mn o' t ↔ t = m1) := fun t ht => by
    rw [mn_orb hj0 e1 ht]
    constructor
    · intro z; have := z m1 k1; have := l1 t ht; omega
    · rintro rfl; exact l1
  have i2 : ∀ t, t ∈ orb o' (stepN o j a) (p - j) → (Mn o' t ↔ t = m2) := fun t ht => by
    rw [mn_orb hpj e2 ht]
    constructor
    · intro z; have := z m2 k2; have := l2 t ht; omega
    · rintro rfl; exact l2
  rcases Int.lt_or_lt_of_ne hm12 with hlt | hlt
  · refine main m2 ((hS _).mpr (.inr k2)) ((i2 m2 k2).mpr rfl) ⟨m1, (hS _).mpr (.inl k1), hlt⟩ fun t ht htm => ?_
    rw [mn_orb h0 h2 ht]
    rcases (hS t).mp ht with z | z
    · rw [i1 t z]
      constructor
      · intro y; have := y m1 ((hS _).mpr (.inl k1)); have := l1 t z; omega
      · rintro rfl y hy
        rcases (hS y).mp hy with w | w
        · exact l1 y w
        · have := l2 y w; omega
    · rw [i2 t z]
      constructor
      · intro y; have := y m1 ((hS _).mpr (.inl k1)); have := l2 t z; omega
      · intro e; exact absurd e htm
  · refine main m1 ((hS _).mpr (.inl k1)) ((i1 m1 k1).mpr rfl) ⟨m2, (hS _).mpr (.inr k2), hlt⟩ fun t ht htm => ?_
    rw [mn_orb h0 h2 ht]
    rcases (hS t).mp ht with z | z
    · rw [i1 t z]
      constructor
      · intro y; have := y m2 ((hS _).mpr (.inr k2)); have := l1 t z; omega
      · intro e; exact absurd e htm
    · rw [i2 t z]
      constructor
      · intro y; have := y m2 ((hS _).mpr (.inr k2)); have := l2 t z; omega
      · rintro rfl y hy
        rcases (hS y).mp hy with w | w
        · have := l1 y w; omega
        · exact l2 y w
end
end C
end VI
namespace VI
namespace C
open PySem PySem.Spec PyProof.Rows L2
theorem upTo_succ (j : Nat) : C.upTo (j + 1) = C.upTo j ++ [(j : Int) + 1] := by
  unfold C.upTo rangeI
  rw [List.range_succ, List.map_append]
  simp
  omega
section
variable {n : Nat} {o : List Int}
theorem rnds_pre (h : IsOrd n o) : ∀ j, j ≤ n → Rnd n o (C.upTo j) ((C.upTo j).foldl (rndStep o) []) ∧ (∀ c ∈ (C.upTo j).foldl (rndStep o) [], ∃ f ∈ C.upTo j, c = cyc o f) ∧ ((C.upTo j).foldl (rndStep o) []).length = (C.upTo j).countP (mnB o)
  | 0, _ => ⟨⟨List.nodup_nil, fun g hg => by simp [C.upTo, rangeI] at hg, fun k hk => by simp [C.upTo, rangeI] at hk, fun g _ hg => by simp [C.upTo, rangeI] at hg, fun g _ hg => by simp [C.upTo, rangeI] at hg, fun c hc => by simp [C.upTo, rangeI] at hc⟩, fun c hc => by simp [C.upTo, rangeI] at hc, rfl⟩
  | j + 1, hj => by
    obtain ⟨r, q, hl⟩ := rnds_pre h j (by omega)
    have hk : 1 ≤ (j : Int) + 1 ∧ (j : Int) + 1 ≤ n := by omega
    have r' := rnd_all h [(j : Int) + 1] (C.upTo j) _ (fun k hk' => by rw [List.mem_singleton.mp hk']; exact hk) r
    rw [upTo_succ, List.foldl_append]
    refine ⟨r', ?_, ?_⟩
    · intro c hc
      show ∃ f ∈ _, _
      have hc' : c ∈ rndStep o ((C.upTo j).foldl (rndStep o) []) ((j : Int) + 1) := hc
      unfold rndStep at hc'
      split at hc'
      · obtain ⟨f, hf, e⟩ := q c hc'
        exact ⟨f, List.mem_append_left _ hf, e⟩
      · rcases List.mem_append.mp hc' with hc' | hc'
        · obtain ⟨f, hf, e⟩ := q c hc'
          exact ⟨f, List.mem_append_left _ hf, e⟩
        · exact ⟨_, List.mem_append_right _ List.mem_cons_self, List.mem_singleton.mp hc'⟩
    · show (rndStep o ((C.upTo j).foldl (rndStep o) []) ((j : Int) + 1)).length = _
      rw [List.countP_append]
      generalize hfo : (C.upTo j).foldl (rndStep o) [] = found at *
      unfold rndStep
      split
      · rename_i hm
        obtain ⟨c, hc, hkc⟩ := List.mem_flatten.mp hm
        obtain ⟨f, hf, rfl⟩ := q c hc
        have hf' := upTo_mem.mp hf
        obtain ⟨p, p0, p1, p2, p3, p4⟩ := cyc_orb h (f := f) (by omega)
        rw [p4] at hkc
        obtain ⟨i, hi⟩ := orb_reach p0 p2 hkc (orb_self p0)
        have : mnB o ((j : Int) + 1) = false := by
          cases hb : mnB o ((j : Int) + 1) with
          | false => rfl
          | true =>
            have := (mnB_iff.mp hb) i
            rw [hi] at this
            omega
        rw [hl, List.countP_cons_of_neg (by rw [this]; simp)]; rfl
      · rename_i hm
        have back : ∀ (i : Nat) (x : Int), 1 ≤ x ∧ x ≤ n → stepN o i x ∈ found.flatten → x ∈ found.flatten := by
          intro i
          induction i with
          | zero => intro x _ z; exact z
          | succ i ih => intro x hx z; exact r.bwd x hx (ih _ (h.at hx) z)
        have : mnB o ((j : Int) + 1) = true := mnB_iff.mpr fun i => by
          refine Classical.byContradiction fun hc => hm (back i _ hk (r.cov _ (upTo_mem.mpr ?_)))
          have := stepN_in h i hk
          omega
        rw [List.length_append, hl, List.countP_cons_of_pos this]; rfl
theorem rnds_count (h : IsOrd n o) : (rnds o).length = (C.upTo n).countP (mnB o) := by
  unfold rnds
  rw [h.len]
  exact (rnds_pre h n (Nat.le_refl _)).2.2
theorem rnds_cut (h : IsOrd n o) {a b : Int} (ha : 1 ≤ a ∧ a ≤ n) (hb : b ∈ cyc o a) (hab : a ≠ b) : (rnds (o.map (ledT (a, b)))).length = (rnds o).length + 1 := by
  have hbr := cyc_in h ha b hb
  rw [rnds_count (ledT_ord h ⟨ha.1, ha.2, hbr.1, hbr.2⟩), rnds_count h]
  exact cut_count h ha hb hab
theorem stepN_fix {t : Int} (h : nth1 o t = t) : ∀ k, stepN o k t = t
  | 0 => rfl
  | k + 1 => by show stepN o k (nth1 o t) = t; rw [h]; exact stepN_fix h k
theorem rnds_plain (h : IsOrd n o) (hf : ∀ t : Int, 1 ≤ t ∧ t ≤ n → nth1 o t = t) : (rnds o).length = n := by
  rw [rnds_count h]
  have : (C.upTo n).countP (mnB o) = (C.upTo n).length := List.countP_eq_length.mpr fun t ht => mnB_iff.mpr fun k => by
    rw [stepN_fix (hf t (upTo_mem.mp ht))]; exact Int.le_refl _
  rw [this, upTo_len]
/-! ### home rows -/
def homeF : List Int → List Int → List (Int × Int)
  | [], _ => []
  | g :: gs, o => if nth1 o g = g then homeF gs o else homeF gs (o.map (ledT (nth1 o g, g))) ++ [(nth1 o g, g)]
/-- the greater things from g down to 2 -/
def downTo (g : Nat) : List Int := rangeI g (g - 1) (-1)
theorem downTo_succ (g : Nat) (hg : 1 ≤ g) : downTo (g + 1) = ((g : Int) + 1) :: downTo g := by
  unfold downTo rangeI
  obtain ⟨m, rfl⟩ : ∃ m, g = m + 1 := ⟨g - 1, by omega⟩
  rw [show m + 1 + 1 - 1 = m + 1 by omega, show m + 1 - 1 = m by omega, List.range_succ_eq_map, List.map_cons, List.map_map]
  refine List.cons_eq_cons.mpr ⟨by simp, List.map_congr_left fun k _ => ?_⟩
  simp only [Function.comp]
  omega
def homeR (o : List Int) : List (Int × Int) := homeF (downTo o.length) o
/-- the greater things rise, from above b on, up to g -/
def Rises (g : Int) (row : List (Int × Int)) : Prop := (∀ p ∈ row, 1 ≤ p.1 ∧ p.1 < p.2 ∧ p.2 ≤ g) ∧ List.Pairwise (fun p q : Int × Int => p.2 < q.2) row
theorem Rises.mono {g k : Int} {row : List (Int × Int)} (h : Rises g row) (hk : g ≤ k) : Rises k row := ⟨fun p hp => by have := h.1 p hp; omega, h.2⟩
theorem Rises.snoc {g : Int} {row : List (Int × Int)} (h : Rises g row) {p : Int × Int} (h1 : 1 ≤ p.1 ∧ p.1 < p.2) (h2 : g < p.2) {k : Int} (h3 : p.2 ≤ k) : Rises k (row ++ [p]) := by
  refine ⟨fun q hq => ?_, List.pairwise_append.mpr ⟨h.2, List.pairwise_singleton _ _, fun a ha b hb => ?_⟩⟩
  · rcases List.mem_append.mp hq with hq | hq
    · have := h.1 q hq; omega
    · rw [List.mem_singleton.mp hq]; omega
  · rw [List.mem_singleton.mp hb]
    have := h.1 a ha; omega
theorem home_all : ∀ (g : Nat) {o : List Int}, 1 ≤ g → g ≤ n → IsOrd n o → (∀ t : Int, (g : Int) < t → t ≤ n → nth1 o t = t) →
    (∀ t : Int, 1 ≤ t ∧ t ≤ n → follow (homeF (downTo g) o) t = nth1 o t) ∧ Rises g (homeF (downTo g) o) ∧ (homeF (downTo g) o).length + (rnds o).length = n
  | 0, o, h1, _, _, _ => by omega
  | 1, o, _, _, ho, hf => by
    have h1 : ∀ t : Int, 1 ≤ t ∧ t ≤ n → nth1 o t = t := fun t ht => by
      by_cases e : t = 1
      · subst e
        have i1 := ho.at ht
        by_cases e2 : nth1 o 1 = 1
        · exact e2
        · have := hf (nth1 o 1) (by omega) i1.2
          exact absurd (ho.inj i1 ht this) e2
      · exact hf t (by omega) ht.2
    refine ⟨fun t ht => (h1 t ht).symm, ⟨fun p hp => absurd hp List.not_mem_nil, List.Pairwise.nil⟩, ?_⟩
    show 0 + _ = n
    rw [rnds_plain ho h1]; omega
  | g + 2, o, _, hg, ho, hf => by
    have hgr : 1 ≤ ((g + 1 : Nat) : Int) + 1 ∧ ((g + 1 : Nat) : Int) + 1 ≤ n := by omega
    rw [downTo_succ (g + 1) (by omega)]
    unfold homeF
    have cast : (((g + 1 : Nat) : Int) + 1) = ((g + 2 : Nat) : Int) := by omega
    by_cases e : nth1 o (((g + 1 : Nat) : Int) + 1) = ((g + 1 : Nat) : Int) + 1
    · rw [if_pos e]
      obtain ⟨q1, q2, q3⟩ := home_all (g + 1) (o := o) (by omega) (by omega) ho fun t ht ht2 => by
        by_cases e2 : t = ((g + 1 : Nat) : Int) + 1
        · rw [e2]; exact e
        · exact hf t (by omega) ht2
      exact ⟨q1, q2.mono (by omega), q3⟩
    · rw [if_neg e]
      generalize hG : ((g + 1 : Nat) : Int) + 1 = G at *
      have hl := ho.at hgr
      -- what is led to lies below
      have hlt : nth1 o G < G := by
        refine Classical.byContradiction fun hc => ?_
        have := hf (nth1 o G) (by omega) hl.2
        exact e (ho.inj hl hgr this)
      have ho' := ledT_ord ho (p := (nth1 o G, G)) ⟨hl.1, hl.2, hgr.1, hgr.2⟩
      have nx : ∀ t : Int, 1 ≤ t ∧ t ≤ n → nth1 (o.map (ledT (nth1 o G, G))) t = ledT (nth1 o G, G) (nth1 o t) := fun t ht => nth1_map ho.len ht
      obtain ⟨q1, q2, q3⟩ := home_all (g + 1) (o := o.map (ledT (nth1 o G, G))) (by omega) (by omega) ho' fun t ht ht2 => by
        rw [nx t (by omega)]
        by_cases e2 : t = G
        · subst e2
          unfold ledT
          rw [if_pos rfl]
        · rw [hf t (by omega) ht2]
          unfold ledT
          rw [if_neg (show ¬ t = nth1 o G by omega), if_neg (show ¬ t = G by omega)]
      have hcut := rnds_cut ho (a := nth1 o G) (b := G) hl (cyc_bwd ho hl hgr (cyc_self o _)) (by omega)
      refine ⟨fun t ht => ?_, ?_, ?_⟩
      · rw [follow_snoc, q1 t ht, nx t ht, led_inv]
      · exact q2.snoc (p := (nth1 o G, G)) ⟨hl.1, hlt⟩ (by show _ < G; omega) (by show G ≤ _; omega)
      · rw [List.length_append, List.length_singleton]
        omega
theorem homeR_ok (h : IsOrd n o) (hn : 1 ≤ n) : (∀ t : Int, 1 ≤ t ∧ t ≤ n → follow (homeR o) t = nth1 o t) ∧ Rises n (homeR o) ∧ (homeR o).length + (rnds o).length = n := by
  unfold homeR
  rw [h.len]
  exact home_all n hn (Nat.le_refl _) h fun t h1 h2 => by omega
theorem homeR_led (h : IsOrd n o) (hn : 1 ≤ n) : (C.upTo n).map (follow (homeR o)) = o := by
  conv => rhs; rw [← ord_map h.len]
  exact List.map_congr_left fun t ht => (homeR_ok h hn).1 t (upTo_mem.mp ht)
theorem Rises.row {row : List (Int × Int)} (h : Rises n row) : RowOk n row := h.1
/-- what a rising row leaves alone -/
theorem rises_off {g t : Int} {row : List (Int × Int)} (h : Rises g row) (ht : g < t) : follow row t = t := by
  have h1 := h.1
  clear h
  induction row with
  | nil => rfl
  | cons p r ih =>
    have h2 := h1 p List.mem_cons_self
    show follow r (ledT p t) = t
    have : ledT p t = t := by
      unfold ledT
      rw [if_neg (by omega), if_neg (by omega)]
    rw [this]
    exact ih fun q hq => h1 q (List.mem_cons_of_mem _ hq)
/-- the home row of what a rising row leads to is that row -/
theorem home_rises : ∀ (g : Nat) {row : List (Int × Int)}, 1 ≤ g → g ≤ n → Rises g row → homeF (downTo g) ((C.upTo n).map (follow row)) = row
  | 0, row, h1, _, _ => by omega
  | 1, row, _, _, h => by
    cases row with
    | nil => rfl
    | cons p r => have := h.1 p List.mem_cons_self; omega
  | g + 2, row, _, hg, h => by
    rw [downTo_succ (g + 1) (by omega)]
    unfold homeF
    have hgr : 1 ≤ ((g + 1 : Nat) : Int) + 1 ∧ ((g + 1 : Nat) : Int) + 1 ≤ n := by omega
    have hv : nth1 ((C.upTo n).map (follow row)) (((g + 1 : Nat) : Int) + 1) = follow row (((g + 1 : Nat) : Int) + 1) := nth1_upTo _ hgr
    generalize hG : ((g + 1 : Nat) : Int) + 1 = G at *
    rw [hv]
    have hgen : Rises ((g + 1 : Nat) : Int) row ∨ ∃ r l, row = r ++ [(l, G)] ∧ Rises ((g + 1 : Nat) : Int) r ∧ 1 ≤ l ∧ l < G := by
      rcases List.eq_nil_or_concat row with e | ⟨r, p, e⟩
      · left; subst e; exact ⟨fun p hp => absurd hp List.not_mem_nil, List.Pairwise.nil⟩
      · subst e
        rw [List.concat_eq_append] at *
        obtain ⟨w1, w2⟩ := h
        obtain ⟨w3, _, w4⟩ := List.pairwise_append.mp w2
        have hp := w1 p (List.mem_append_right _ List.mem_cons_self)
        by_cases e2 : p.2 = G
        · right
          refine ⟨r, p.1, by rw [← e2], ⟨fun q hq => ?_, w3⟩, hp.1, by omega⟩
          have := w1 q (List.mem_append_left _ hq)
          have := w4 q hq p List.mem_cons_self
          omega
        · left
          refine ⟨fun q hq => ?_, w2⟩
          have h5 := w1 q hq
          rcases List.mem_append.mp hq with hq | hq
          · have := w4 q hq p List.mem_cons_self; omega
          · rw [List.mem_singleton.mp hq]; omega
    rcases hgen with hr | ⟨r, l, rfl, hr, hl1, hl2⟩
    · rw [if_pos (rises_off hr (by omega))]
      exact home_rises (g + 1) (by omega) (by omega) hr
    · have hfg : follow (r ++ [(l, G)]) G = l := by
        rw [follow_snoc, rises_off hr (by omega)]
        unfold ledT
        rw [if_neg (show ¬ G = l by omega), if_pos rfl]
      rw [hfg, if_neg (by omega)]
      have e3 : ((C.upTo n).map (follow (r ++ [(l, G)]))).map (ledT (l, G)) = (C.upTo n).map (follow r) := by
        rw [List.map_map]
        refine List.map_congr_left fun t _ => ?_
        show ledT (l, G) (follow (r ++ [(l, G)]) t) = follow r t
        rw [follow_snoc, led_inv]
      rw [e3, home_rises (g + 1) (by omega) (by omega) hr]
end
end C
end VI
namespace VI
namespace C
open PySem PySem.Spec PyProof.Rows L2
theorem range_down (i j : Int) (h : -(2 ^ 61) ≤ i ∧ i < 2 ^ 61 ∧ -(2 ^ 61) ≤ j ∧ j < 2 ^ 61) : rangeOf [.int i, .int j, .int (-1)] = some ((rangeI i (i - j).toNat (-1)).map D.int) := by
  show (if -(2 ^ 61) ≤ i ∧ i < 2 ^ 61 ∧ -(2 ^ 61) ≤ j ∧ j < 2 ^ 61 then some ((rangeI i (i - j).toNat (-1)).map D.int) else none) = _
  rw [if_pos h]
def Home (cs : CS) : Prop := cs.io "home" = [false] ∧ ∀ (n : Nat) (o : List Int), IsOrd n o → 1 ≤ n → n ≤ 100 → cs.run "home" [(tupI o, .sh)] = .ret (lstP (homeR o)) .full [.none]
theorem homeStep_ord {n : Nat} {o : List Int} (h : IsOrd n o) {g : Int} (hg : 1 ≤ g ∧ g ≤ n) : IsOrd n (o.map (ledT (nth1 o g, g))) := by
  have hl := h.at hg
  exact ledT_ord h ⟨hl.1, hl.2, hg.1, hg.2⟩
theorem home_ok {fs : List Fn} (h : Has fs f_home) {k : Nat} (hL : LedThing (csOf fs k)) : Home (csOf fs (k + 1)) := by
  refine ⟨h.io _, fun n o ho hn1 hn => ?_⟩
  rw [show ("home" : Str) = f_home.name from rfl, h.run _ rfl (by decide)]
  have hl := ho.len
  generalize csOf fs k = cs at *
  obtain ⟨iL, rL⟩ := hL
  have hrg := range_down (n : Int) 1 (by omega)
  rw [show ((n : Int) - 1).toNat = n - 1 by omega] at hrg
  have key : ∃ e', forL (forF cs (.nm 3) (.cons (.asg (.nm 4) (.sub (.var 1) (.op .sub (.var 3) (.int 1)))) (.cons (.ite (.cmp .ne (.var 4) (.var 3)) (.cons (.app 2 (.tup (.cons (.var 4) (.cons (.var 3) .nil)))) (.cons (.asg (.nm 1) (.comp (.nm 5) [5] (.val (.mov 1)) .no (.call "led_thing" (.cons (.tup (.cons (.var 4) (.cons (.var 3) .nil))) (.cons (.var 5) .nil))))) .nil)) .nil) .nil))) ((downTo n).map fun x => (D.int x, Lv.full)) [Slot.own (tupI o) .sh, .own (.lst (o.map .int)) .full, .own (.lst []) .full, .none, .none, .none] = .nx e' ∧
      ∃ (g F : List Int × List (Int × Int)) (s3 s4 : Slot), e' = [Slot.own (tupI o) .sh, .own (.lst (g.1.map .int)) .full, .own (.lst (F.2.map tup2)) .full, s3, s4, .none] ∧ IsOrd n g.1 ∧ F.2.length = (downTo n).length - (downTo n).length + F.2.length ∧ F.2.length ≤ (downTo n).length ∧ ∀ rest, downTo n ++ rest = downTo n → homeF rest g.1 ++ F.2.reverse = homeR o := by
    refine forL_inv (fun x => (D.int x, Lv.full)) (fun dn e => ∃ (g F : List Int × List (Int × Int)) (s3 s4 : Slot), e = [Slot.own (tupI o) .sh, .own (.lst (g.1.map .int)) .full, .own (.lst (F.2.map tup2)) .full, s3, s4, .none] ∧ IsOrd n g.1 ∧ F.2.length = dn.length - dn.length + F.2.length ∧ F.2.length ≤ dn.length ∧ ∀ rest, dn ++ rest = downTo n → homeF rest g.1 ++ F.2.reverse = homeR o) (downTo n) (downTo n) [] _ rfl ⟨(o, []), ([], []), _, _, rfl, ho, by simp, by simp, fun rest hr => by
      rw [List.nil_append] at hr
      subst hr
      unfold homeR
      rw [hl]; simp⟩ ?_
    rintro dn g rs e hp ⟨⟨o', _⟩, ⟨_, F⟩, s3, s4, rfl, ho', _, hFl, hF⟩
    dsimp only at *
    have hdl := congrArg List.length hp
    have hdn : (downTo n).length = n - 1 := by simp [downTo, rangeI]
    rw [hdn, List.length_append, List.length_cons] at hdl
    have hgm : g ∈ downTo n := by rw [← hp]; simp
    have hg : 1 ≤ g ∧ g ≤ n := by
      unfold downTo rangeI at hgm
      obtain ⟨i, hi, rfl⟩ := List.mem_map.mp hgm
      have := List.mem_range.mp hi
      omega
    have hl' := ho'.len
    have a1 := at1 (xs := o') (g := g) (by omega)
    have hF' := hF (g :: rs) hp
    unfold homeF at hF'
    by_cases e : nth1 o' g = g
    · rw [if_pos e] at hF'
      refine ⟨[Slot.own (tupI o) .sh, .own (.lst (o'.map .int)) .full, .own (.lst (F.map tup2)) .full, .own (.int g) .full, .own (.int (nth1 o' g)) .full, .none], ?_, (o', []), ([], F), .own (.int g) .full, .own (.int (nth1 o' g)) .full, rfl, ho', by simp, by simp; omega, fun rest hr => ?_⟩
      · rw [forF_K]
        simp -implicitDefEqProofs [a1, e]
      · have : rest = rs := by
          have : dn ++ [g] ++ rest = dn ++ [g] ++ rs := by rw [hr, List.append_assoc]; exact hp.symm
          exact List.append_cancel_left this
        rw [this]; exact hF'
    · rw [if_neg e] at hF'
      have z1 : F.length < sizeLine := line5 (by omega)
      have z2 : 0 + o'.length ≤ sizeLine := Nat.le_of_lt (line5 (by omega))
      refine ⟨[Slot.own (tupI o) .sh, .own (.lst ((o'.map (ledT (nth1 o' g, g))).map .int)) .full, .own (.lst ((F ++ [(nth1 o' g, g)]).map tup2)) .full, .own (.int g) .full, .own (.int (nth1 o' g)) .full, .none], ?_, (o'.map (ledT (nth1 o' g, g)), []), ([], F ++ [(nth1 o' g, g)]), .own (.int g) .full, .own (.int (nth1 o' g)) .full, rfl, homeStep_ord ho' hg, by simp, by simp; omega, fun rest hr => ?_⟩
      · have cm : compL (compF cs (.nm 5) [5] .no (.call "led_thing" (.cons (.tup (.cons (.var 4) (.cons (.var 3) .nil))) (.cons (.var 5) .nil)))) 0 (o'.map fun x => (D.int x, Lv.full)) [Slot.own (tupI o) .sh, .none, .own (.lst (F.map tup2 ++ [.tup [.int (nth1 o' g), .int g]])) .full, .own (.int g) .full, .own (.int (nth1 o' g)) .full, .none] = .ok (o'.map fun x => (D.int (ledT (nth1 o' g, g) x), Lv.full)) [Slot.own (tupI o) .sh, .none, .own (.lst (F.map tup2 ++ [.tup [.int (nth1 o' g), .int g]])) .full, .own (.int g) .full, .own (.int (nth1 o' g)) .full, .none] := by
          refine compL_map (fun x => (D.int x, Lv.full)) (fun x => (D.int (ledT (nth1 o' g, g) x), Lv.full)) _ _ _ z2 fun x hx => ?_
          have r1 := rL (nth1 o' g, g) x
          unfold tup2 at r1
          unfold compF
          simp -implicitDefEqProofs [iL, r1]
        have t2 : tup2 (nth1 o' g, g) = .tup [.int (nth1 o' g), .int g] := rfl
        rw [forF_K]
        simp -implicitDefEqProofs [a1, e, z1, cm, t2, Function.comp_def]
      · have : rest = rs := by
          have : dn ++ [g] ++ rest = dn ++ [g] ++ rs := by rw [hr, List.append_assoc]; exact hp.symm
          exact List.append_cancel_left this
        rw [this, List.reverse_append]
        rw [← hF', List.append_assoc]; rfl
  obtain ⟨e', h1, ⟨o', _⟩, ⟨_, F⟩, s3, s4, rfl, ho', _, _, hF⟩ := key
  have hF' : F.reverse = homeR o := by simpa [homeF] using hF [] (by simp)
  have hd : rangeI n (n - 1) (-1) = downTo n := rfl
  rw [hd] at hrg
  have z3 : o.length ≤ sizeLine := Nat.le_of_lt (line5 (by omega))
  have hrev : (F.map tup2).reverse = (homeR o).map tup2 := by rw [← List.map_reverse, hF']
  unfold f_home
  unfold lstP tupI at *
  simp -implicitDefEqProofs [hl, hrg, h1, hrev, Function.comp_def]
end C
end VI
namespace VI
namespace C
open PySem PySem.Spec PyProof.Rows L2
/-! ### lists that tell an order's rounds -/
def CycL (o c : List Int) : Prop := ∀ i, i < c.length → nth1 o (c.getD i 0) = c.getD ((i + 1) % c.length) 0
structure LsOk (n : Nat) (o : List Int) (ls : List (List Int)) : Prop where
  nd : ls.flatten.Nodup
  rg : ∀ g ∈ ls.flatten, 1 ≤ g ∧ g ≤ n
  ne : ∀ c ∈ ls, c ≠ []
  cy : ∀ c ∈ ls, CycL o c
  fix : ∀ t : Int, 1 ≤ t ∧ t ≤ n → t ∉ ls.flatten → nth1 o t = t
theorem cycL_cyc {n : Nat} {o : List Int} (h : IsOrd n o) {f : Int} (hf : 1 ≤ f ∧ f ≤ n) : CycL o (cyc o f) := by
  obtain ⟨p, p0, p1, p2, p3, p4⟩ := cyc_orb h hf
  have hl : (cyc o f).length = p := by rw [p4]; simp [orb]
  have hg : ∀ i, i < p → (cyc o f).getD i 0 = stepN o i f := fun i hi => by
    rw [p4, getD_at (by simp [orb]; exact hi)]
    simp [orb]
  intro i hi
  rw [hl] at hi ⊢
  rw [hg i hi, ← stepN_succ]
  by_cases e : i + 1 = p
  · rw [e, p2, Nat.mod_self, hg 0 (by omega)]; rfl
  · rw [Nat.mod_eq_of_lt (by omega), hg (i + 1) (by omega)]
def rotL (c : List Int) (k : Nat) : List Int := c.drop k ++ c.take k
theorem rotL_len (c : List Int) (k : Nat) : (rotL c k).length = c.length := by simp [rotL]; omega
theorem rotL_get {c : List Int} {k i : Nat} (hk : k < c.length) (hi : i < c.length) : (rotL c k).getD i 0 = c.getD ((i + k) % c.length) 0 := by
  unfold rotL
  rw [List.getD_eq_getElem?_getD, List.getD_eq_getElem?_getD]
  by_cases h : i + k < c.length
  · rw [List.getElem?_append_left (by rw [List.length_drop]; omega), List.getElem?_drop, Nat.mod_eq_of_lt h, Nat.add_comm]
  · have e : (i + k) % c.length = i + k - c.length := by
      rw [Nat.mod_eq_sub_mod (by omega), Nat.mod_eq_of_lt (by omega)]
    rw [List.getElem?_append_right (by rw [List.length_drop]; omega), List.length_drop, List.getElem?_take_of_lt (by omega), e]
    rw [show i - (c.length - k) = i + k - c.length by omega]
theorem cycL_rot {o c : List Int} (h : CycL o c) {k : Nat} (hk : k < c.length) : CycL o (rotL c k) := by
  intro i hi
  rw [rotL_len] at hi ⊢
  have h1 : (i + 1) % c.length < c.length := Nat.mod_lt _ (by omega)
  have h2 : (i + k) % c.length < c.length := Nat.mod_lt _ (by omega)
  rw [rotL_get hk hi, rotL_get hk h1, h _ h2]
  congr 1
  rw [Nat.mod_add_mod, Nat.mod_add_mod]
  congr 1
  omega
theorem rotL_perm (c : List Int) (k : Nat) : (rotL c k).Perm c := by
  unfold rotL
  exact List.perm_append_comm.trans (by rw [List.take_append_drop])
theorem rnds_ls {n : Nat} {o : List Int} (h : IsOrd n o) : LsOk n o (rnds o) := by
  have r := rnds_ok h
  refine ⟨r.nd, r.rg, fun c hc e => ?_, fun c hc => ?_, fun t ht hn => absurd (r.cov t (upTo_mem.mpr ht)) hn⟩
  · obtain ⟨f, _, rfl⟩ := r.is c hc
    cases e
  · obtain ⟨f, hf, rfl⟩ := r.is c hc
    exact cycL_cyc h hf
theorem no_ls (n : Nat) : LsOk n (C.upTo n) [] := ⟨List.nodup_nil, fun g hg => absurd hg List.not_mem_nil, fun c hc => absurd hc List.not_mem_nil, fun c hc => absurd hc List.not_mem_nil, fun t ht _ => by
  have := nth1_upTo (n := n) (fun x => x) ht
  rwa [List.map_id'] at this⟩
/-- the goals that are told -/
def Goals (o : List Int) (kvs : List (Key × D)) (met : List Int) : Prop := (∀ t : Int, dlookK (.inl t) kvs = if t ∈ met then some (.int (nth1 o t)) else none) ∧ kvs.length ≤ met.length
theorem Goals.put {o : List Int} {kvs : List (Key × D)} {met : List Int} (h : Goals o kvs met) (t : Int) : Goals o (dputK (.inl t) (.int (nth1 o t)) kvs) (met ++ [t]) := by
  refine ⟨fun k => ?_, ?_⟩
  · rw [dlook_putV, h.1]
    by_cases e : t = k
    · subst e; simp
    · have e2 : ¬ k = t := fun z => e z.symm
      have e3 : ¬ (Sum.inl t : Key) = .inl k := fun z => e (by cases z; rfl)
      simp [e2, e3]
  · have := dput_len (.inl t) (.int (nth1 o t)) kvs
    have := h.2
    rw [List.length_append]
    simp; omega
def Made (cs : CS) : Prop := cs.io "made" = [false, false] ∧ ∀ (n : Nat) (o : List Int) (ls : List (List Int)), o.length = n → n ≤ 100 → LsOk n o ls → cs.run "made" [(.int n, .sh), (lstL ls, .sh)] = .ret (tupI o) .full [.none, .none]
theorem made_ok {fs : List Fn} (h : Has fs f_made) (k : Nat) : Made (csOf fs (k + 1)) := by
  refine ⟨h.io _, fun n o ls hl hn L => ?_⟩
  rw [show ("made" : Str) = f_made.name from rfl, h.run _ rfl (by decide)]
  generalize csOf fs k = cs
  have hru := range_up 1 ((n : Int) + 1) (by omega)
  rw [show ((n : Int) + 1 - 1).toNat = n by omega] at hru
  have hfl := nodup_le n _ L.nd L.rg
  generalize hlv : lvK (ls.map fun k => D.lst (k.map D.int)) .sh = lv
  have inner : ∀ (met c : List Int) (kvs : List (Key × D)) (s4 s5 : Slot), c ≠ [] → CycL o c → (met ++ c).Nodup → (met ++ c).length ≤ 1000 → (∀ g ∈ c, 1 ≤ g ∧ g ≤ (n : Int)) → Goals o kvs met →
      ∃ e', forL (forF cs (.two (.nm 4) (.nm 5)) (.cons (.ite (.or (.not (.ch2 .le .le (.int 1) (.var 5) (.var 0))) (.cmp .isin (.var 5) (.var 2))) (.cons .bad .nil) .nil) (.cons (.setI 2 (.var 5) (.sub (.var 3) (.op .mod (.op .add (.var 4) (.int 1)) (.b1 .len (.var 3))))) .nil))) ((c.zipIdx 0).map fun p => (D.tup [.int p.2, .int p.1], Lv.full)) [Slot.own (.int n) .sh, .none, .own (.dK kvs) .full, .own (.lst (c.map .int)) .sh, s4, s5] = .nx e' ∧
      ∃ (kvs' : List (Key × D)) (s4 s5 : Slot), e' = [Slot.own (.int n) .sh, .none, .own (.dK kvs') .full, .own (.lst (c.map .int)) .sh, s4, s5] ∧ Goals o kvs' (met ++ (c.zipIdx 0).map (·.1)) := by
    intro met c kvs s4 s5 hc hcy hnd hlen hrg hG
    refine forL_inv (fun p : Int × Nat => (D.tup [.int p.2, .int p.1], Lv.full)) (fun dn e => ∃ (kvs' : List (Key × D)) (s4 s5 : Slot), e = [Slot.own (.int n) .sh, .none, .own (.dK kvs') .full, .own (.lst (c.map .int)) .sh, s4, s5] ∧ Goals o kvs' (met ++ dn.map (·.1))) (c.zipIdx 0) (c.zipIdx 0) [] _ rfl ⟨kvs, s4, s5, rfl, by simpa using hG⟩ ?_
    rintro dn ⟨x, i⟩ rs e hp ⟨kvs', s4, s5, rfl, hG'⟩
    have hdl := congrArg List.length hp
    rw [List.length_append, List.length_cons, List.length_zipIdx] at hdl
    have hi : i = dn.length ∧ c[i]? = some x := by
      have h1 : (dn ++ (x, i) :: rs)[dn.length]? = (c.zipIdx 0)[dn.length]? := by rw [hp]
      rw [List.getElem?_append_right (Nat.le_refl _), Nat.sub_self, List.getElem?_zipIdx] at h1
      obtain ⟨y, h2, h3⟩ := Option.map_eq_some_iff.mp h1.symm
      injection h3 with h4 h5
      subst h4
      rw [← h5, Nat.zero_add]
      exact ⟨rfl, h2⟩
    obtain ⟨rfl, hx⟩ := hi
    obtain ⟨hi, hx⟩ := List.getElem?_eq_some_iff.mp hx
    have hpre : dn.map (·.1) = c.take dn.length := by
      have := congrArg (fun l => (l.map (·.1)).take dn.length) hp
      simp only [List.map_append, List.map_cons] at this
      rw [List.take_left' (by simp)] at this
      rw [this, List.zipIdx_map_fst]
    have hnot : x ∉ met ++ dn.map (·.1) := fun z => by
      rw [hpre] at z
      have e1 : met ++ c = (met ++ c.take dn.length) ++ c.drop dn.length := by rw [List.append_assoc, List.take_append_drop]
      rw [e1] at hnd
      refine (List.nodup_append.mp hnd).2.2 x z x ?_ rfl
      rw [List.drop_eq_getElem_cons hi, hx]
      exact List.mem_cons_self
    have hxr := hrg x (hx ▸ List.getElem_mem _)
    have hlook : (dlookK (.inl x) kvs').isSome = false := by rw [hG'.1, if_neg hnot]; rfl
    have hcp : 0 < c.length := by omega
    have hj : (dn.length + 1) % c.length < c.length := Nat.mod_lt _ hcp
    have hat : atI (c.map D.int) (((dn.length : Int) + 1) % (c.length : Int)) = some (.int (nth1 o x)) := by
      have h1 := atN D.int hj
      rw [Int.natCast_emod, Int.natCast_add] at h1
      have h2 := hcy dn.length hi
      rw [getD_at hi, getD_at hj, hx] at h2
      rw [h2]
      exact h1
    have hcp' : (0 : Int) < c.length := by omega
    have hkl := hG'.2
    rw [List.length_append, List.length_map] at hkl
    rw [List.length_append] at hlen
    have z : kvs'.length < sizeLine := line5 (by omega)
    refine ⟨[Slot.own (.int n) .sh, .none, .own (.dK (dputK (.inl x) (.int (nth1 o x)) kvs')) .full, .own (.lst (c.map .int)) .sh, .own (.int dn.length) .full, .own (.int x) .full], ?_, _, _, _, rfl, ?_⟩
    · rw [forF_K]
      simp -implicitDefEqProofs [hxr.1, hxr.2, hlook, hat, hcp, hcp', z]
    · rw [List.map_append, ← List.append_assoc]
      exact hG'.put x
  have key : ∃ e', forL (forF cs (.nm 3) (.cons (.ite (.cmp .eq (.b1 .len (.var 3)) (.int 0)) (.cons .bad .nil) .nil) (.cons (.for (.two (.nm 4) (.nm 5)) (.enu (.var 3)) (.cons (.ite (.or (.not (.ch2 .le .le (.int 1) (.var 5) (.var 0))) (.cmp .isin (.var 5) (.var 2))) (.cons .bad .nil) .nil) (.cons (.setI 2 (.var 5) (.sub (.var 3) (.op .mod (.op .add (.var 4) (.int 1)) (.b1 .len (.var 3))))) .nil))) .nil))) (ls.map fun k => (D.lst (k.map D.int), lv)) [Slot.own (.int n) .sh, .none, .own (.dK []) .full, .none, .none, .none] = .nx e' ∧
      ∃ (kvs : List (Key × D)) (s3 s4 s5 : Slot), e' = [Slot.own (.int n) .sh, .none, .own (.dK kvs) .full, s3, s4, s5] ∧ Goals o kvs ls.flatten := by
    refine forL_inv (fun k => (D.lst (k.map D.int), lv)) (fun dn e => ∃ (kvs : List (Key × D)) (s3 s4 s5 : Slot), e = [Slot.own (.int n) .sh, .none, .own (.dK kvs) .full, s3, s4, s5] ∧ Goals o kvs dn.flatten) ls ls [] _ rfl ⟨[], _, _, _, rfl, fun t => rfl, Nat.le_refl _⟩ ?_
    rintro dn c rs e hp ⟨kvs, s3, s4, s5, rfl, hG⟩
    have hcm : c ∈ ls := by rw [← hp]; simp
    have hfd : ls.flatten = dn.flatten ++ c ++ rs.flatten := by rw [← hp]; simp
    have hnd : (dn.flatten ++ c).Nodup := by
      have := L.nd
      rw [hfd] at this
      exact (List.nodup_append.mp this).1
    have hsz : (dn.flatten ++ c).length ≤ 1000 := by
      have := congrArg List.length hfd
      rw [List.length_append] at this
      omega
    obtain ⟨e2, h2, kvs', s4', s5', rfl, hG'⟩ := inner dn.flatten c kvs s4 s5 (L.ne c hcm) (L.cy c hcm) hnd hsz (fun g hg => L.rg g (by rw [hfd]; simp [hg])) hG
    rw [List.zipIdx_map_fst] at hG'
    have hcl : ¬ c.length = 0 := fun z => L.ne c hcm (List.length_eq_zero_iff.mp z)
    refine ⟨[Slot.own (.int n) .sh, .none, .own (.dK kvs') .full, .own (.lst (c.map .int)) .sh, s4', s5'], ?_, kvs', _, _, _, rfl, by simpa using hG'⟩
    rw [forF_K]
    simp -implicitDefEqProofs [h2, hcl, L.ne c hcm]
  obtain ⟨e', h1, kvs, s3, s4, s5, rfl, hG⟩ := key
  have hg : ∀ t : Int, 1 ≤ t ∧ t ≤ n → getO [Slot.own (.int n) .sh, .none, .own (.dK kvs) .full, s3, s4, .own (.int t) .full] (.int t) (dlookK (.inl t) kvs) = .ok (.tmp (.int (nth1 o t)) .full) [Slot.own (.int n) .sh, .none, .own (.dK kvs) .full, s3, s4, .own (.int t) .full] := fun t ht => by
    rw [hG.1]
    by_cases hm : t ∈ ls.flatten
    · rw [if_pos hm]; simp
    · rw [if_neg hm, L.fix t ht hm]; simp
  have z2 : 0 + (rangeI 1 n 1).length ≤ sizeLine := by rw [rangeI_len]; exact Nat.le_of_lt (line5 (by omega))
  have cm : compL (compF cs (.nm 5) [5] .no (.b3 .get (.var 2) (.var 5) (.var 5))) 0 ((rangeI 1 n 1).map fun x => (D.int x, Lv.full)) [Slot.own (.int n) .sh, .none, .own (.dK kvs) .full, s3, s4, .none] = .ok ((rangeI 1 n 1).map fun x => (D.int (nth1 o x), Lv.full)) [Slot.own (.int n) .sh, .none, .own (.dK kvs) .full, s3, s4, .none] := by
    refine compL_map (fun x => (D.int x, Lv.full)) (fun x => (D.int (nth1 o x), Lv.full)) _ _ _ z2 fun t ht => ?_
    have := hg t (upTo_mem.mp ht)
    unfold compF
    simp -implicitDefEqProofs [this]
  have ho : (rangeI 1 n 1).map (fun x => D.int (nth1 o x)) = o.map D.int := by
    conv => rhs; rw [← ord_map hl]
    rw [List.map_map]; rfl
  unfold f_made
  unfold lstL tupI at *
  simp -implicitDefEqProofs [hlv, h1, hru, cm, ho, Function.comp_def]
end C
end VI
namespace VI
open PySem PySem.Spec PyProof.Rows L2
def isW : D → Bool
  | .int _ => true
  | _ => false
def srtK (p : List D × Lv) (e1 : Env) : Option (List D) → R VI.X
  | some ds => .ok (mkL ds p.2) e1
  | none => .stk
@[simp] theorem srtK_s (p : List D × Lv) (e1 : Env) (ds : List D) : srtK p e1 (some ds) = .ok (mkL ds p.2) e1 := rfl
@[simp] theorem b1_sorted_l (x : VI.X) (e : Env) (ds : List D) (h : deref e x = some (.lst ds)) : b1D .sorted x e (some (.lst ds)) = (kids e x).bind fun p e1 => srtK p e1 (sortD false p.1) := by
  show b1X .sorted x e = _
  unfold b1X
  rw [h]; rfl
@[simp] theorem b1_sorted_t (x : VI.X) (e : Env) (ds : List D) (h : deref e x = some (.tup ds)) : b1D .sorted x e (some (.tup ds)) = (kids e x).bind fun p e1 => srtK p e1 (sortD false p.1) := by
  show b1X .sorted x e = _
  unfold b1X
  rw [h]; rfl
namespace C
def IsWhole (nm : Str) (cs : CS) : Prop := cs.io nm = [false] ∧ ∀ (d : D) (l : Lv), d ≠ .hole → cs.run nm [(d, l)] = .ret (.bl (isW d)) .full [.none]
theorem isWhole {fs : List Fn} (h : Has fs f_is_whole) (k : Nat) : IsWhole "is_whole" (csOf fs (k + 1)) := by
  refine ⟨h.io _, fun d l hd => ?_⟩
  rw [show ("is_whole" : Str) = f_is_whole.name from rfl, h.run k rfl (by decide)]
  unfold f_is_whole
  cases d <;> first | (exact absurd rfl hd) | (simp -implicitDefEqProofs [isTy, isW])
theorem lawWhole {fs : List Fn} (h : Has fs f__law_whole) (k : Nat) : IsWhole "_law_whole" (csOf fs (k + 1)) := by
  refine ⟨h.io _, fun d l hd => ?_⟩
  rw [show ("_law_whole" : Str) = f__law_whole.name from rfl, h.run k rfl (by decide)]
  unfold f__law_whole
  cases d <;> first | (exact absurd rfl hd) | (simp -implicitDefEqProofs [isTy, isW])
def AreWholes (cs : CS) : Prop := cs.io "are_wholes" = [false] ∧ ∀ ds : List D, ds.length ≤ 1000 → (∀ d ∈ ds, d ≠ .hole) → cs.run "are_wholes" [(.lst ds, .sh)] = .ret (.bl (ds.all isW)) .full [.none]
theorem areWholes {fs : List Fn} (h : Has fs f_are_wholes) {k : Nat} (hW : IsWhole "is_whole" (csOf fs k)) : AreWholes (csOf fs (k + 1)) := by
  refine ⟨h.io _, fun ds hn hd => ?_⟩
  rw [show ("are_wholes" : Str) = f_are_wholes.name from rfl, h.run k rfl (by decide)]
  obtain ⟨i1, r1⟩ := hW
  unfold f_are_wholes
  simp -implicitDefEqProofs
  rw [compL_map (fun d => (d, lvK ds Lv.sh)) (fun d => (D.bl (isW d), Lv.full)) _ ds _ ?hl ?hh]
  case hl => have := line0 hn; omega
  case hh =>
    intro x hx
    have r2 := fun l => r1 x l (hd x hx)
    unfold compF
    by_cases hi : imm x = true
    · simp -implicitDefEqProofs [hi, i1, r2]
    · simp -implicitDefEqProofs [hi, i1, r2]
  simp -implicitDefEqProofs [Function.comp_def]

def isort (ns : List Int) : List Int := insort (fun a b => decide (a ≤ b)) ns
theorem insK_map (a : Int) : ∀ ns : List Int, insK (leK .int false) (D.int a) (ns.map D.int) = (insK (fun a b => decide (a ≤ b)) a ns).map D.int
  | [] => rfl
  | b :: ns => by
    have e : leK .int false (D.int a) (D.int b) = decide (a ≤ b) := by
      show (!decide (b < a)) = _
      by_cases h : a ≤ b
      · simp [h, Int.not_lt.mpr h]
      · simp [h, Int.not_le.mp h]
    rw [List.map_cons]
    show (if leK .int false (D.int a) (D.int b) then _ else _) = List.map D.int (if decide (a ≤ b) then _ else _)
    rw [e]
    split
    · rfl
    · rw [insK_map a ns]; rfl
theorem insort_map : ∀ ns : List Int, insort (leK .int false) (ns.map D.int) = (isort ns).map D.int
  | [] => rfl
  | a :: ns => by
    show insK _ (D.int a) (insort _ (ns.map D.int)) = _
    rw [insort_map ns, insK_map]; rfl
theorem hasKs_ints : ∀ ns : List Int, hasKs .int (ns.map D.int) = true
  | [] => by rw [List.map_nil, hasKs]
  | a :: ns => by rw [List.map_cons, hasKs, hasKs_ints ns]; simp [hasK]
theorem sortD_ints (ns : List Int) : sortD false (ns.map D.int) = some ((isort ns).map D.int) := by
  have h1 : (ns.map D.int).all notNil = true := by simp [notNil]
  have h2 : kindOf (ns.map D.int) = some .int := by
    unfold kindOf kinds
    rw [if_pos h1, List.find?_cons, hasKs_ints]
  unfold sortD
  rw [h2, Option.map_some, insort_map]
theorem insK_perm (a : Int) : ∀ ns : List Int, (insK (fun a b => decide (a ≤ b)) a ns).Perm (a :: ns)
  | [] => .refl _
  | b :: ns => by
    rw [insK]
    split
    · exact .refl _
    · exact ((insK_perm a ns).cons b).trans (.swap _ _ _)
theorem isort_perm : ∀ ns : List Int, (isort ns).Perm ns
  | [] => .refl _
  | a :: ns => (insK_perm a _).trans ((isort_perm ns).cons a)
theorem insK_sorted (a : Int) : ∀ {ns : List Int}, ns.Pairwise (· ≤ ·) → (insK (fun a b => decide (a ≤ b)) a ns).Pairwise (· ≤ ·)
  | [], _ => by simp [insK]
  | b :: ns, h => by
    rw [insK]
    obtain ⟨h1, h2⟩ := List.pairwise_cons.mp h
    split
    · rename_i c
      have c : a ≤ b := of_decide_eq_true c
      refine List.pairwise_cons.mpr ⟨fun x hx => ?_, h⟩
      rcases List.mem_cons.mp hx with rfl | hx
      · exact c
      · exact Int.le_trans c (h1 x hx)
    · rename_i c
      have c : ¬ a ≤ b := fun z => c (decide_eq_true z)
      refine List.pairwise_cons.mpr ⟨fun x hx => ?_, insK_sorted a h2⟩
      rcases List.mem_cons.mp ((insK_perm a ns).mem_iff.mp hx) with rfl | hx
      · omega
      · exact h1 x hx
theorem isort_sorted : ∀ ns : List Int, (isort ns).Pairwise (· ≤ ·)
  | [] => .nil
  | a :: ns => insK_sorted a (isort_sorted ns)
theorem sorted_count : ∀ {s : List Int}, s.Pairwise (· ≤ ·) → ∀ {i : Nat} (hi : i < s.length) (k : Int), s[i] ≤ k ↔ i + 1 ≤ s.countP (fun x => decide (x ≤ k))
  | [], _, i, hi, _ => by simp at hi
  | a :: t, h, i, hi, k => by
    obtain ⟨h1, h2⟩ := List.pairwise_cons.mp h
    have z : ¬ a ≤ k → t.countP (fun x => decide (x ≤ k)) = 0 := fun n => by
      rw [List.countP_eq_zero]
      intro x hx
      have := h1 x hx
      simp; omega
    rw [List.countP_cons]
    match i with
    | 0 =>
      show a ≤ k ↔ _
      by_cases c : a ≤ k
      · simp [c]
      · simp [c, z c]
    | i + 1 =>
      have ih := sorted_count h2 (i := i) (by simpa using hi) k
      rw [List.getElem_cons_succ, ih]
      by_cases c : a ≤ k
      · simp [c]
      · have := z c
        simp [c]; omega
theorem wholes_int : ∀ {ds : List D}, ds.all isW = true → ∃ ns : List Int, ds = ns.map D.int
  | [], _ => ⟨[], rfl⟩
  | d :: ds, h => by
    rw [List.all_cons, Bool.and_eq_true] at h
    obtain ⟨ns, rfl⟩ := wholes_int h.2
    cases d with
    | int i => exact ⟨i :: ns, rfl⟩
    | _ => cases h.1
/-! ### numbers -/
theorem pow_wide {i j : Int} (h : CPowW i j) : opI .pow i j = some (i ^ j.toNat) := by
  rw [opI_pow, if_pos h, ite_self]
theorem div_any {i j : Int} (h : 0 < j) (h2 : j < 2 ^ 64) : opI .fdiv i j = some (i / j) := by
  have : CDivW i j := ⟨h, by
    have z : j.natAbs ≠ 0 := by omega
    exact Nat.lt_trans ((Nat.log2_lt z).mpr (show j.natAbs < 2 ^ 64 by omega)) (by decide)⟩
  rw [opI_fdiv, if_pos this, ite_self]
def Number (cs : CS) : Prop := cs.io "_law_number" = [false, false] ∧ ∀ (ns : List Int) (k : Nat), k ≤ 1000 → ∃ N : Nat, cs.run "_law_number" [(.lst (ns.map .int), .sh), (.int k, .sh)] = .ret (.int N) .full [.none, .none]
def CellAt (cs : CS) : Prop := cs.io "_law_cell" = [false, false] ∧ ∀ (ns : List Int) (k : Nat), k ≤ 1000 → ∃ c : Int, cs.run "_law_cell" [(.lst (ns.map .int), .sh), (.int k, .sh)] = .ret (.int c) .full [.none, .none]
theorem cellAt {fs : List Fn} (h : Has fs f__law_cell) (k : Nat) : CellAt (csOf fs (k + 1)) := by
  refine ⟨h.io _, fun ns k hk => ?_⟩
  rw [show ("_law_cell" : Str) = f__law_cell.name from rfl, h.run _ rfl (by decide)]
  unfold f__law_cell
  by_cases hl : k < ns.length
  · refine ⟨ns[k], ?_⟩
    have hc : (ns.map D.int)[k]? = some (.int ns[k]) := by simp [hl]
    simp -implicitDefEqProofs [atI, ixN, hl]
  · refine ⟨0, ?_⟩
    simp -implicitDefEqProofs [atI, ixN, hl]
theorem number_ok {fs : List Fn} (h : Has fs f__law_number) {k : Nat} (hC : CellAt (csOf fs k)) : Number (csOf fs (k + 1)) := by
  refine ⟨h.io _, fun ns k hk => ?_⟩
  rw [show ("_law_number" : Str) = f__law_number.name from rfl, h.run _ rfl (by decide)]
  obtain ⟨iC, rC⟩ := hC
  obtain ⟨c, rC⟩ := rC ns k hk
  have p18 : CPow 10 18 := by decide
  have p37 : CPow 10 37 := by decide
  have p20 : CPow 10 20 := by decide
  have m1 : ∀ x, CMul 1442695040888963407 x := fun x => cmul_left (by decide)
  have m2 : ∀ x, CMul x 6364136223846793005 := fun x => cmul_small (by decide)
  have m3 : CMul (k : Int) k := cmul_left (by omega)
  generalize hx : ((c % 10 ^ 18 + 1442695040888963407 * ((k : Int) * k + k + 1)) * 6364136223846793005) % 10 ^ 37 = x
  have x0 : 0 ≤ x ∧ x < 10 ^ 37 := by rw [← hx]; exact ⟨Int.emod_nonneg _ (by decide), Int.emod_lt_of_pos _ (by decide)⟩
  have pw : CPowW x 4 := by
    refine ⟨by decide, ?_⟩
    have : x.natAbs.log2 < 123 := by
      by_cases z : x.natAbs = 0
      · rw [z]; decide
      · rw [Nat.log2_lt z]; have : x.natAbs < 10 ^ 37 := by omega
        exact Nat.lt_of_lt_of_le this (by decide)
    omega
  have pw2 := pow_wide pw
  have hy : ∃ N : Nat, x ^ (4 : Int).toNat / 10 ^ 20 = N := ⟨(x ^ 4 / 10 ^ 20).toNat, by
    have : 0 ≤ x ^ 4 / 10 ^ 20 := Int.ediv_nonneg (Int.pow_nonneg x0.1) (by decide)
    show x ^ 4 / 10 ^ 20 = _
    omega⟩
  obtain ⟨N, hN⟩ := hy
  simp only [Int.reducePow, Int.reduceToNat] at hx hN pw2
  have o18 : opI .pow 10 18 = some 1000000000000000000 := by rw [opI_pow, if_pos p18]; rfl
  have o37 : opI .pow 10 37 = some 10000000000000000000000000000000000000 := by rw [opI_pow, if_pos p37]; rfl
  have o20 : opI .pow 10 20 = some 100000000000000000000 := by rw [opI_pow, if_pos p20]; rfl
  have d20 : ∀ i : Int, opI .fdiv i 100000000000000000000 = some (i / 100000000000000000000) := fun i => by
    have : CDivW i 100000000000000000000 := ⟨by decide, by decide +kernel⟩
    rw [opI_fdiv, if_pos this, ite_self]
  unfold f__law_number
  by_cases hb : (1000000000000000000 : Int) ≤ (if c < 0 then -c else c)
  · refine ⟨c.natAbs, ?_⟩
    have e : (if c < 0 then -c else c) = (c.natAbs : Int) := by split <;> omega
    rw [e] at hb
    simp -implicitDefEqProofs [iC, rC, p18, e, hb]
  · refine ⟨N, ?_⟩
    simp -implicitDefEqProofs [iC, rC, o18, hb, m1, m2, m3, o37, hx, pw2, o20, hN, -opI_pow, d20, -opI_fdiv]

/-! ### the size, the numbers that park -/
def Size (cs : CS) : Prop := cs.io "_law_size" = [false] ∧ ∀ N : Nat, ∃ m : Nat, 1 ≤ m ∧ m ≤ 12 ∧ cs.run "_law_size" [(.int N, .sh)] = .ret (.int m) .full [.none]
theorem size_ok {fs : List Fn} (h : Has fs f__law_size) (k : Nat) : Size (csOf fs (k + 1)) := by
  refine ⟨h.io _, fun N => ?_⟩
  rw [show ("_law_size" : Str) = f__law_size.name from rfl, h.run _ rfl (by decide)]
  obtain ⟨j, hj, e⟩ : ∃ j : Nat, j < 16 ∧ (N : Int) % 16 = j := ⟨N % 16, by omega, by omega⟩
  have tab : ∀ j : Nat, j < 16 → ∃ m : Nat, 1 ≤ m ∧ m ≤ 12 ∧ atI [D.int 1, D.int 2, D.int 3, D.int 4, D.int 5, D.int 6, D.int 7, D.int 8, D.int 9, D.int 10, D.int 11, D.int 12, D.int 12, D.int 11, D.int 10, D.int 9] j = some (.int m) := by
    intro j hj
    match j, hj with
    | 0, _ => exact ⟨1, by decide, by decide, rfl⟩
    | 1, _ => exact ⟨2, by decide, by decide, rfl⟩
    | 2, _ => exact ⟨3, by decide, by decide, rfl⟩
    | 3, _ => exact ⟨4, by decide, by decide, rfl⟩
    | 4, _ => exact ⟨5, by decide, by decide, rfl⟩
    | 5, _ => exact ⟨6, by decide, by decide, rfl⟩
    | 6, _ => exact ⟨7, by decide, by decide, rfl⟩
    | 7, _ => exact ⟨8, by decide, by decide, rfl⟩
    | 8, _ => exact ⟨9, by decide, by decide, rfl⟩
    | 9, _ => exact ⟨10, by decide, by decide, rfl⟩
    | 10, _ => exact ⟨11, by decide, by decide, rfl⟩
    | 11, _ => exact ⟨12, by decide, by decide, rfl⟩
    | 12, _ => exact ⟨12, by decide, by decide, rfl⟩
    | 13, _ => exact ⟨11, by decide, by decide, rfl⟩
    | 14, _ => exact ⟨10, by decide, by decide, rfl⟩
    | 15, _ => exact ⟨9, by decide, by decide, rfl⟩
    | j + 16, hj => exact absurd hj (by omega)
  obtain ⟨m, h1, h2, h3⟩ := tab j hj
  refine ⟨m, h1, h2, ?_⟩
  unfold f__law_size
  have z : 16 ≤ sizeLine := by rw [sizeLine_eq]; decide
  simp -implicitDefEqProofs [e, h3, z]
def parksB (xs : List Int) : Bool := (isort xs).zipIdx.all fun p => decide (1 ≤ p.1) && decide (p.1 ≤ (p.2 : Int) + 1)
/-- what parks: a list of under twelve whole numbers -/
def parksD : D → Bool
  | .lst ds => decide (ds.length < 12) && (match intsD ds with
    | some xs => parksB xs
    | none => false)
  | _ => false

/-- no hole at the top, nor among a list's items -/
def NoHole (x : D) : Prop := x ≠ .hole ∧ ∀ ds, x = .lst ds → ds.length ≤ 1000 ∧ ∀ d ∈ ds, d ≠ .hole
theorem isTyL {x : D} (h : x ≠ .hole) : isTy .list x = some (match x with | .lst _ => true | _ => false) := by
  cases x <;> first | rfl | exact absurd rfl h
theorem intsD_map : ∀ ns : List Int, intsD (ns.map D.int) = some ns
  | [] => rfl
  | i :: ns => by
    show (intsD (ns.map D.int)).map (i :: ·) = _
    rw [intsD_map ns]; rfl
theorem intsD_none : ∀ {ds : List D}, ds.all isW = false → intsD ds = none
  | d :: ds, h => by
    cases d with
    | int i =>
      show (intsD ds).map (i :: ·) = none
      rw [intsD_none (by simpa [isW] using h)]; rfl
    | _ => rfl
def Parks (nm : Str) (cs : CS) : Prop := cs.io nm = [false] ∧ ∀ x, NoHole x → cs.run nm [(x, .sh)] = .ret (.bl (parksD x)) .full [.none]
theorem all_zipIdx_map (xs : List Int) (p : Int × Nat → Bool) : ((xs.map D.int).zipIdx) = xs.zipIdx.map fun p => (D.int p.1, p.2) := by
  rw [List.zipIdx_map]; rfl
theorem isort_len (ns : List Int) : (isort ns).length = ns.length := (isort_perm ns).length_eq
theorem parks_ok {fs : List Fn} (h : Has fs f_parks) {k : Nat} (hW : AreWholes (csOf fs k)) : Parks "parks" (csOf fs (k + 1)) := by
  refine ⟨h.io _, fun x hx => ?_⟩
  rw [show ("parks" : Str) = f_parks.name from rfl, h.run _ rfl (by decide)]
  obtain ⟨i1, r1⟩ := hW
  obtain ⟨hn, hl⟩ := hx
  have ty := isTyL hn
  by_cases hh : ∃ ds, x = .lst ds
  · obtain ⟨ds, rfl⟩ := hh
    obtain ⟨l1, l2⟩ := hl ds rfl
    have r1 := r1 ds l1 l2
    unfold f_parks parksD
    by_cases c1 : ds.length < 12
    · by_cases c2 : ds.all isW = true
      · obtain ⟨ns, rfl⟩ := wholes_int c2
        have c4 : ns.length < 12 := by simpa using c1
        have c3 : ¬ (12 : Int) ≤ ns.length := by omega
        rw [c2] at r1
        simp -implicitDefEqProofs [c3, c4, i1, r1, intsD_map, sortD_ints]
        rw [compL_map (fun p : Int × Nat => (D.tup [.int (p.2 : Int), .int p.1], Lv.full)) (fun p => (D.bl (decide (1 ≤ p.1) && decide (p.1 ≤ (p.2 : Int) + 1)), Lv.full)) _ (isort ns).zipIdx _ ?hl ?hh]
        case hl => have := line0 (show ns.length ≤ 1000 by omega); simp [isort_len]; omega
        case hh =>
          intro p hp
          unfold compF
          by_cases z : 1 ≤ p.1
          · simp -implicitDefEqProofs [z]
          · simp -implicitDefEqProofs [z]
        simp -implicitDefEqProofs [Function.comp_def]
        rfl
      · have c2 : ds.all isW = false := by simpa using c2
        have c3 : ¬ (12 : Int) ≤ ds.length := by omega
        rw [c2] at r1
        simp -implicitDefEqProofs [c3, c1, i1, r1, intsD_none c2]
    · have c3 : (12 : Int) ≤ ds.length := by omega
      simp -implicitDefEqProofs [c3, c1]
  · have : parksD x = false := by
      cases x <;> first | rfl | exact absurd ⟨_, rfl⟩ hh
    have ty2 : isTy .list x = some false := by
      cases x <;> first | rfl | exact absurd rfl hn | exact absurd ⟨_, rfl⟩ hh
    rw [this]
    unfold f_parks
    simp -implicitDefEqProofs [ty2]

def lparksB (xs : List Int) : Bool := xs.all (fun x => decide (1 ≤ x) && decide (x ≤ xs.length)) && (rangeI 1 xs.length 1).all fun k => decide (k ≤ xs.countP (fun x => decide (x ≤ k)))
theorem parks_eq (xs : List Int) : parksB xs = lparksB xs := by
  have hp := isort_perm xs
  have hs := isort_sorted xs
  have hl := isort_len xs
  rw [Bool.eq_iff_iff]
  unfold parksB lparksB
  rw [Bool.and_eq_true, List.all_eq_true, List.all_eq_true, List.all_eq_true]
  constructor
  · intro h
    have h : ∀ (i : Nat) (hi : i < (isort xs).length), 1 ≤ (isort xs)[i] ∧ (isort xs)[i] ≤ (i : Int) + 1 := fun i hi => by
      have := h ((isort xs)[i], i) (by rw [List.mem_zipIdx_iff_getElem?]; simp [hi])
      simpa using this
    refine ⟨fun x hx => ?_, fun k hk => ?_⟩
    · obtain ⟨i, hi, e⟩ := List.getElem_of_mem (hp.mem_iff.mpr hx)
      have := h i hi
      rw [e] at this
      simp; omega
    · simp only [rangeI, List.mem_map, List.mem_range] at hk
      obtain ⟨j, hj, rfl⟩ := hk
      have hj2 : j < (isort xs).length := by omega
      have := (sorted_count hs hj2 (1 + (j : Int) * 1)).mp (by have := h j hj2; omega)
      rw [hp.countP_eq] at this
      exact decide_eq_true (by omega)
  · rintro ⟨h1, h2⟩ p hp2
    rw [List.mem_zipIdx_iff_getElem?] at hp2
    obtain ⟨hi, e⟩ := List.getElem?_eq_some_iff.mp hp2
    have m1 := h1 p.1 (hp.mem_iff.mp (e ▸ List.getElem_mem hi))
    have m2 := h2 ((p.2 : Int) + 1) (by simp only [rangeI, List.mem_map, List.mem_range]; exact ⟨p.2, by omega, by omega⟩)
    have m3 := (sorted_count hs hi ((p.2 : Int) + 1)).mpr (by rw [hp.countP_eq]; have := of_decide_eq_true m2; omega)
    rw [e] at m3
    simp at m1 ⊢
    omega
theorem lawParks {fs : List Fn} (h : Has fs f__law_parks) {k : Nat} (hW : IsWhole "_law_whole" (csOf fs k)) : Parks "_law_parks" (csOf fs (k + 1)) := by
  refine ⟨h.io _, fun x hx => ?_⟩
  rw [show ("_law_parks" : Str) = f__law_parks.name from rfl, h.run _ rfl (by decide)]
  obtain ⟨i1, r1⟩ := hW
  obtain ⟨hn, hl⟩ := hx
  by_cases hh : ∃ ds, x = .lst ds
  · obtain ⟨ds, rfl⟩ := hh
    obtain ⟨l1, l2⟩ := hl ds rfl
    unfold f__law_parks parksD
    by_cases c1 : ds.length < 12
    · have c3 : ¬ (11 : Int) < ds.length := by omega
      simp -implicitDefEqProofs [c3, c1]
      rw [compL_map (fun d => (d, lvK ds Lv.sh)) (fun d => (D.bl (isW d), Lv.full)) _ ds _ ?hl ?hh]
      case hl => have := line0 l1; omega
      case hh =>
        intro x hx
        have r2 := fun l => r1 x l (l2 x hx)
        unfold compF
        by_cases hi : imm x = true
        · simp -implicitDefEqProofs [hi, i1, r2]
        · simp -implicitDefEqProofs [hi, i1, r2]
      by_cases c2 : ds.all isW = true
      · obtain ⟨ns, rfl⟩ := wholes_int c2
        have c4 : ns.length < 12 := by simpa using c1
        have hrg := range_up 1 (ns.length + 1) (by omega)
        have e : ((ns.length : Int) + 1 - 1).toNat = ns.length := by omega
        rw [e] at hrg
        simp -implicitDefEqProofs [Function.comp_def, isW, intsD_map, parks_eq]
        rw [compL_map (fun x => (D.int x, Lv.full)) (fun x => (D.bl (decide (1 ≤ x) && decide (x ≤ ns.length)), Lv.full)) _ ns _ ?hl2 ?hh2]
        case hl2 => have := line0 l1; simp at this; omega
        case hh2 =>
          intro x hx
          unfold compF
          by_cases z : 1 ≤ x
          · simp -implicitDefEqProofs [z]
          · simp -implicitDefEqProofs [z]
        unfold lparksB
        cases c5 : ns.all (fun x => decide (1 ≤ x) && decide (x ≤ ns.length)) with
        | false =>
          have c6 : ∃ x, x ∈ ns ∧ (1 ≤ x → (ns.length : Int) < x) := by simpa using c5
          simp -implicitDefEqProofs [Function.comp_def, c6]
        | true =>
          have c6 : ¬ ∃ x, x ∈ ns ∧ (1 ≤ x → (ns.length : Int) < x) := by simpa using c5
          simp -implicitDefEqProofs [Function.comp_def, c6, hrg]
          rw [compL_map (fun x => (D.int x, Lv.full)) (fun k => (D.bl (decide (k ≤ ns.countP (fun x => decide (x ≤ k)))), Lv.full)) _ (rangeI 1 ns.length 1) _ ?hl3 ?hh3]
          case hl3 => have := line0 l1; simp [rangeI] at this ⊢; omega
          case hh3 =>
            intro k hk
            unfold compF
            simp -implicitDefEqProofs [Function.comp_def]
            rw [compL_filter (fun x => (D.int x, Lv.full)) (fun x => decide (x ≤ k)) (fun x => (D.int x, Lv.full)) _ ns _ ?hl4 ?hh4]
            case hl4 => have := line0 l1; simp at this; omega
            case hh4 =>
              intro x hx
              unfold compF
              by_cases z : x ≤ k
              · simp -implicitDefEqProofs [z]
              · simp -implicitDefEqProofs [z]
            simp -implicitDefEqProofs [Function.comp_def, List.countP_eq_length_filter]
          simp -implicitDefEqProofs [Function.comp_def]
      · have c2 : ds.all isW = false := by simpa using c2
        simp -implicitDefEqProofs [Function.comp_def, c2, intsD_none c2]
    · have c3 : (11 : Int) < ds.length := by omega
      simp -implicitDefEqProofs [c3, c1]
  · have : parksD x = false := by
      cases x <;> first | rfl | exact absurd ⟨_, rfl⟩ hh
    have ty2 : isTy .list x = some false := by
      cases x <;> first | rfl | exact absurd rfl hn | exact absurd ⟨_, rfl⟩ hh
    rw [this]
    unfold f__law_parks
    simp -implicitDefEqProofs [ty2]
end C
end VI
namespace VI
open PySem PySem.Spec PyProof.Rows L2
namespace C
/-! ### partitions -/
def lsort (ls : List (List Int)) : List (List Int) := insort leR ls
theorem lsort_perm (ls : List (List Int)) : (lsort ls).Perm ls := insort_perm ls
theorem lsort_eq {a b : List (List Int)} (h : a.Perm b) : lsort a = lsort b :=
  List.Perm.eq_of_pairwise (le := fun a b => leR a b = true) (fun a b _ _ h1 h2 => leR_anti a b h1 h2) (insort_pw leR_total _) (insort_pw leR_total _) ((lsort_perm a).trans (h.trans (lsort_perm b).symm))
theorem isort_eq {a b : List Int} (h : a.Perm b) : isort a = isort b :=
  List.Perm.eq_of_pairwise (le := fun a b => a ≤ b) (fun a b _ _ h1 h2 => by omega) (isort_sorted _) (isort_sorted _) ((isort_perm a).trans (h.trans (isort_perm b).symm))
theorem isort_id {a : List Int} (h : a.Pairwise (· ≤ ·)) : isort a = a :=
  List.Perm.eq_of_pairwise (le := fun a b => a ≤ b) (fun a b _ _ h1 h2 => by omega) (isort_sorted _) h (isort_perm a)
theorem mem_isort {x : Int} {a : List Int} : x ∈ isort a ↔ x ∈ a := (isort_perm a).mem_iff
structure Ptn (n : Nat) (ls : List (List Int)) : Prop where
  nd : ls.flatten.Nodup
  cov : ∀ t : Int, t ∈ ls.flatten ↔ 1 ≤ t ∧ t ≤ n
  ne : ∀ c ∈ ls, c ≠ []
  srt : ∀ c ∈ ls, c.Pairwise (· ≤ ·)
/-- two in one list -/
def sm (ls : List (List Int)) (a b : Int) : Prop := ∃ c ∈ ls, a ∈ c ∧ b ∈ c
theorem flat_one {ls : List (List Int)} (h : ls.flatten.Nodup) {c d : List Int} (hc : c ∈ ls) (hd : d ∈ ls) {x : Int} (xc : x ∈ c) (xd : x ∈ d) : c = d := by
  induction ls with
  | nil => cases hc
  | cons e ls ih =>
    rw [List.flatten_cons, List.nodup_append] at h
    obtain ⟨h1, h2, h3⟩ := h
    rcases List.mem_cons.mp hc with e1 | hc2
    · rcases List.mem_cons.mp hd with e2 | hd2
      · rw [e1, e2]
      · exact absurd rfl (h3 x (e1 ▸ xc) x (List.mem_flatten.mpr ⟨d, hd2, xd⟩))
    · rcases List.mem_cons.mp hd with e2 | hd2
      · exact absurd rfl (h3 x (e2 ▸ xd) x (List.mem_flatten.mpr ⟨c, hc2, xc⟩))
      · exact ih h2 hc2 hd2
theorem Ptn.nds {n : Nat} {ls : List (List Int)} (h : Ptn n ls) : ls.Nodup := by
  have := List.pairwise_flatten.mp h.nd
  refine (List.Pairwise.imp_of_mem ?_ this.2)
  intro a b ha hb hab e
  subst e
  obtain ⟨x, hx⟩ := List.exists_mem_of_ne_nil a (h.ne a ha)
  exact hab x hx x hx rfl
theorem Ptn.cnd {n : Nat} {ls : List (List Int)} (h : Ptn n ls) {c : List Int} (hc : c ∈ ls) : c.Nodup := (List.pairwise_flatten.mp h.nd).1 c hc
theorem Ptn.sub {n : Nat} {ls ls' : List (List Int)} (h : Ptn n ls) (h' : Ptn n ls') (hs : ∀ a b, sm ls a b ↔ sm ls' a b) : ∀ c ∈ ls, c ∈ ls' := fun c hc => by
  obtain ⟨x, hx⟩ := List.exists_mem_of_ne_nil c (h.ne c hc)
  obtain ⟨d, hd, xd, _⟩ := (hs x x).mp ⟨c, hc, hx, hx⟩
  have e : c = d := by
    refine List.Perm.eq_of_pairwise (le := fun a b => a ≤ b) (fun a b _ _ h1 h2 => by omega) (h.srt c hc) (h'.srt d hd) ((List.perm_ext_iff_of_nodup (h.cnd hc) (h'.cnd hd)).mpr fun b => ⟨fun hb => ?_, fun hb => ?_⟩)
    · obtain ⟨d', hd', xd', bd'⟩ := (hs x b).mp ⟨c, hc, hx, hb⟩
      rw [flat_one h'.nd hd hd' xd xd']; exact bd'
    · obtain ⟨c', hc', xc', bc'⟩ := (hs x b).mpr ⟨d, hd, xd, hb⟩
      rw [flat_one h.nd hc hc' hx xc']; exact bc'
  rw [e]; exact hd
theorem Ptn.eq {n : Nat} {ls ls' : List (List Int)} (h : Ptn n ls) (h' : Ptn n ls') (hs : ∀ a b, sm ls a b ↔ sm ls' a b) : lsort ls = lsort ls' :=
  lsort_eq ((List.perm_ext_iff_of_nodup h.nds h'.nds).mpr fun c => ⟨h.sub h' hs c, h'.sub h (fun a b => (hs a b).symm) c⟩)
/-! the program's parts -/
def hit (p : Int × Int) (c : List Int) : Bool := decide (p.1 ∈ c) || decide (p.2 ∈ c)
def joinL (ls : List (List Int)) (p : Int × Int) : List (List Int) := ls.filter (fun c => !hit p c) ++ [isort (ls.filter (hit p)).flatten]
def alone (n : Nat) : List (List Int) := (C.upTo n).map fun t => [t]
def prt (n : Nat) (row : List (Int × Int)) : List (List Int) := row.foldl joinL (alone n)
def partsR (n : Nat) (row : List (Int × Int)) : List (List Int) := lsort (prt n row)
theorem prt_snoc (n : Nat) (row : List (Int × Int)) (p : Int × Int) : prt n (row ++ [p]) = joinL (prt n row) p := by unfold prt; rw [List.foldl_append]; rfl
theorem alone_flat (n : Nat) : (alone n).flatten = C.upTo n := by
  unfold alone
  generalize C.upTo n = l
  induction l with
  | nil => rfl
  | cons a l ih => simp [ih]
theorem alone_ptn (n : Nat) : Ptn n (alone n) := ⟨by rw [alone_flat]; exact upTo_nodup n, fun t => by rw [alone_flat]; exact upTo_mem, fun c hc => by
  obtain ⟨t, _, rfl⟩ := List.mem_map.mp hc
  simp, fun c hc => by
  obtain ⟨t, _, rfl⟩ := List.mem_map.mp hc
  simp⟩
theorem joinL_flat (ls : List (List Int)) (p : Int × Int) : (joinL ls p).flatten.Perm ls.flatten := by
  unfold joinL
  rw [List.flatten_append, List.flatten_singleton]
  refine ((isort_perm _).append_left _).trans ?_
  rw [← List.flatten_append]
  refine List.Perm.flatten ?_
  exact List.perm_append_comm.trans (List.filter_append_perm (hit p) ls)
theorem joinL_ptn {n : Nat} {ls : List (List Int)} (h : Ptn n ls) {p : Int × Int} (hp : 1 ≤ p.1 ∧ p.1 ≤ n) : Ptn n (joinL ls p) where
  nd := (joinL_flat ls p).nodup_iff.mpr h.nd
  cov := fun t => (joinL_flat ls p).mem_iff.trans (h.cov t)
  ne := fun c hc => by
    rcases List.mem_append.mp hc with hc | hc
    · exact h.ne c (List.mem_filter.mp hc).1
    · rw [List.mem_singleton.mp hc]
      obtain ⟨d, hd, pd⟩ := List.mem_flatten.mp ((h.cov p.1).mpr hp)
      intro e
      have : p.1 ∈ isort (ls.filter (hit p)).flatten := mem_isort.mpr (List.mem_flatten.mpr ⟨d, List.mem_filter.mpr ⟨hd, by simp [hit, pd]⟩, pd⟩)
      rw [e] at this
      cases this
  srt := fun c hc => by
    rcases List.mem_append.mp hc with hc | hc
    · exact h.srt c (List.mem_filter.mp hc).1
    · rw [List.mem_singleton.mp hc]
      exact isort_sorted _
theorem prt_ptn {n : Nat} : ∀ {row : List (Int × Int)}, (∀ p ∈ row, 1 ≤ p.1 ∧ p.1 ≤ n) → Ptn n (prt n row) := by
  intro row h
  unfold prt
  have gen : ∀ (row : List (Int × Int)) (ls : List (List Int)), (∀ p ∈ row, 1 ≤ p.1 ∧ p.1 ≤ (n : Int)) → Ptn n ls → Ptn n (row.foldl joinL ls) := by
    intro row
    induction row with
    | nil => intro ls _ h; exact h
    | cons p row ih => intro ls hr h; exact ih _ (fun q hq => hr q (List.mem_cons_of_mem _ hq)) (joinL_ptn h (hr p List.mem_cons_self))
  exact gen row _ h (alone_ptn n)
/-- behind a join -/
theorem joinL_sm {ls : List (List Int)} {p : Int × Int} {a b : Int} : sm (joinL ls p) a b ↔ (∃ c ∈ ls, hit p c = false ∧ a ∈ c ∧ b ∈ c) ∨ ((∃ c ∈ ls, hit p c = true ∧ a ∈ c) ∧ ∃ c ∈ ls, hit p c = true ∧ b ∈ c) := by
  unfold sm joinL
  constructor
  · rintro ⟨c, hc, ha, hb⟩
    rcases List.mem_append.mp hc with hc | hc
    · obtain ⟨h1, h2⟩ := List.mem_filter.mp hc
      exact .inl ⟨c, h1, by simpa using h2, ha, hb⟩
    · rw [List.mem_singleton.mp hc] at ha hb
      obtain ⟨d, hd, ad⟩ := List.mem_flatten.mp (mem_isort.mp ha)
      obtain ⟨e, he, be⟩ := List.mem_flatten.mp (mem_isort.mp hb)
      obtain ⟨d1, d2⟩ := List.mem_filter.mp hd
      obtain ⟨e1, e2⟩ := List.mem_filter.mp he
      exact .inr ⟨⟨d, d1, d2, ad⟩, e, e1, e2, be⟩
  · rintro (⟨c, hc, h, ha, hb⟩ | ⟨⟨d, hd, h1, ha⟩, e, he, h2, hb⟩)
    · exact ⟨c, List.mem_append_left _ (List.mem_filter.mpr ⟨hc, by simp [h]⟩), ha, hb⟩
    · exact ⟨_, List.mem_append_right _ (List.mem_singleton.mpr rfl), mem_isort.mpr (List.mem_flatten.mpr ⟨d, List.mem_filter.mpr ⟨hd, h1⟩, ha⟩), mem_isort.mpr (List.mem_flatten.mpr ⟨e, List.mem_filter.mpr ⟨he, h2⟩, hb⟩)⟩
theorem sm_symm {ls : List (List Int)} {a b : Int} (h : sm ls a b) : sm ls b a := by obtain ⟨c, h1, h2, h3⟩ := h; exact ⟨c, h1, h3, h2⟩
theorem sm_trans {ls : List (List Int)} (nd : ls.flatten.Nodup) {a b c : Int} (h : sm ls a b) (h2 : sm ls b c) : sm ls a c := by
  obtain ⟨x, x1, x2, x3⟩ := h
  obtain ⟨y, y1, y2, y3⟩ := h2
  have := flat_one nd x1 y1 x3 y2
  exact ⟨x, x1, x2, by rw [this]; exact y3⟩
/-- what hung together before hangs together behind it -/
theorem sm_join {ls : List (List Int)} (p : Int × Int) {a b : Int} (h : sm ls a b) : sm (joinL ls p) a b := by
  obtain ⟨c, h1, h2, h3⟩ := h
  rw [joinL_sm]
  cases q : hit p c with
  | false => exact .inl ⟨c, h1, q, h2, h3⟩
  | true => exact .inr ⟨⟨c, h1, q, h2⟩, c, h1, q, h3⟩
theorem sm_new {n : Nat} {ls : List (List Int)} (h : Ptn n ls) {p : Int × Int} (hp : 1 ≤ p.1 ∧ p.1 ≤ n) (hq : 1 ≤ p.2 ∧ p.2 ≤ n) : sm (joinL ls p) p.1 p.2 := by
  rw [joinL_sm]
  obtain ⟨c, hc, pc⟩ := List.mem_flatten.mp ((h.cov p.1).mpr hp)
  obtain ⟨d, hd, pd⟩ := List.mem_flatten.mp ((h.cov p.2).mpr hq)
  exact .inr ⟨⟨c, hc, by simp [hit, pc], pc⟩, d, hd, by simp [hit, pd], pd⟩
theorem Ptn.refl {n : Nat} {ls : List (List Int)} (h : Ptn n ls) {t : Int} (ht : 1 ≤ t ∧ t ≤ n) : sm ls t t := by
  obtain ⟨c, hc, pc⟩ := List.mem_flatten.mp ((h.cov t).mpr ht)
  exact ⟨c, hc, pc, pc⟩
/-- an exchange leads within a part -/
theorem sm_led {n : Nat} {ls : List (List Int)} (h : Ptn n ls) {p : Int × Int} (hp : 1 ≤ p.1 ∧ p.1 ≤ n) (hq : 1 ≤ p.2 ∧ p.2 ≤ n) {t : Int} (ht : 1 ≤ t ∧ t ≤ n) : sm (joinL ls p) t (ledT p t) := by
  unfold ledT
  split
  · rename_i e; rw [e]; exact sm_new h hp hq
  · split
    · rename_i _ e; rw [e]; exact sm_symm (sm_new h hp hq)
    · exact (joinL_ptn h hp).refl ht
theorem sm_follow {n : Nat} : ∀ (m : Nat) (row : List (Int × Int)), row.length = m → RowOk n row → ∀ t : Int, 1 ≤ t ∧ t ≤ n → sm (prt n row) t (follow row t)
  | 0, row, hl, _, t, ht => by
    have : row = [] := List.length_eq_zero_iff.mp hl
    subst this
    exact (alone_ptn n).refl ht
  | m + 1, row, hl, hr, t, ht => by
    obtain ⟨r, p, rfl⟩ : ∃ r p, row = r ++ [p] := ⟨row.dropLast, row.getLast (by intro e; rw [e] at hl; simp at hl), (List.dropLast_concat_getLast _).symm⟩
    have hr' : RowOk n r := fun q hq => hr q (by simp [hq])
    have hp := hr p (by simp)
    have ih := sm_follow m r (by simpa using hl) hr' t ht
    have hpt : Ptn n (prt n r) := prt_ptn fun q hq => by have := hr' q hq; omega
    rw [prt_snoc, follow_snoc]
    have hpt2 := joinL_ptn (p := p) hpt (by omega)
    exact sm_trans hpt2.nd (sm_join p ih) (sm_led hpt (by omega) (by omega) (follow_in hr' ht))
/-- each exchange makes one part less at most -/
theorem joinL_len {n : Nat} {ls : List (List Int)} (h : Ptn n ls) (p : Int × Int) : ls.length ≤ (joinL ls p).length + 1 := by
  unfold joinL
  rw [List.length_append, List.length_singleton]
  have e := (List.filter_append_perm (hit p) ls).length_eq
  rw [List.length_append] at e
  have two : (ls.filter (hit p)).length ≤ 2 := by
    have nd2 := h.nds
    -- lists with p.1, with p.2: at most one each
    have one : ∀ x : Int, (ls.filter fun c => decide (x ∈ c)).length ≤ 1 := fun x => by
      match q : ls.filter (fun c => decide (x ∈ c)) with
      | [] => simp
      | [_] => simp
      | a :: b :: r =>
        exfalso
        have ha : a ∈ ls.filter (fun c => decide (x ∈ c)) := by rw [q]; simp
        have hb : b ∈ ls.filter (fun c => decide (x ∈ c)) := by rw [q]; simp
        obtain ⟨a1, a2⟩ := List.mem_filter.mp ha
        obtain ⟨b1, b2⟩ := List.mem_filter.mp hb
        have e := flat_one h.nd a1 b1 (of_decide_eq_true a2) (of_decide_eq_true b2)
        have nf := nd2.filter (fun c => decide (x ∈ c))
        rw [q, e] at nf
        simp at nf
    have le : ∀ l : List (List Int), (l.filter (hit p)).length ≤ (l.filter fun c => decide (p.1 ∈ c)).length + (l.filter fun c => decide (p.2 ∈ c)).length := by
      intro l
      induction l with
      | nil => simp
      | cons c l ih =>
        simp only [List.filter_cons, hit]
        by_cases c1 : p.1 ∈ c <;> by_cases c2 : p.2 ∈ c <;> simp [c1, c2, hit] at ih ⊢ <;> omega
    have := le ls
    have := one p.1
    have := one p.2
    omega
  have : (ls.filter (fun c => !hit p c)).length = (ls.filter (fun x => !hit p x)).length := rfl
  omega
theorem prt_len {n : Nat} : ∀ (m : Nat) (row : List (Int × Int)), row.length = m → RowOk n row → n ≤ (prt n row).length + m
  | 0, row, hl, _ => by
    have : row = [] := List.length_eq_zero_iff.mp hl
    subst this
    show n ≤ (alone n).length + 0
    simp [alone, upTo_len]
  | m + 1, row, hl, hr => by
    obtain ⟨r, p, rfl⟩ : ∃ r p, row = r ++ [p] := ⟨row.dropLast, row.getLast (by intro e; rw [e] at hl; simp at hl), (List.dropLast_concat_getLast _).symm⟩
    have hr' : RowOk n r := fun q hq => hr q (by simp [hq])
    have ih := prt_len m r (by simpa using hl) hr'
    have hpt : Ptn n (prt n r) := prt_ptn fun q hq => by have := hr' q hq; omega
    have := joinL_len hpt p
    rw [prt_snoc]; omega
end C
end VI
namespace VI
open PySem PySem.Spec PyProof.Rows L2
namespace C
/-! ### rounds within parts -/
section
variable {n : Nat} {o : List Int}
theorem rnds_cov (h : IsOrd n o) (t : Int) : t ∈ (rnds o).flatten ↔ 1 ≤ t ∧ t ≤ n := ⟨(rnds_ok h).rg t, fun ht => (rnds_ok h).cov t (upTo_mem.mpr ht)⟩
theorem cyc_ne (o : List Int) (f : Int) : cyc o f ≠ [] := by unfold cyc; simp
theorem rnds_ne (h : IsOrd n o) : ∀ c ∈ rnds o, c ≠ [] := fun c hc => by
  obtain ⟨f, _, rfl⟩ := (rnds_ok h).is c hc
  exact cyc_ne o f
theorem map_isort_flat (ls : List (List Int)) : (ls.map isort).flatten.Perm ls.flatten := by
  induction ls with
  | nil => exact .refl _
  | cons c ls ih => simp only [List.map_cons, List.flatten_cons]; exact (isort_perm c).append ih
theorem rnds_ptn (h : IsOrd n o) : Ptn n ((rnds o).map isort) where
  nd := (map_isort_flat _).nodup_iff.mpr (rnds_ok h).nd
  cov := fun t => (map_isort_flat _).mem_iff.trans (rnds_cov h t)
  ne := fun c hc => by
    obtain ⟨d, hd, rfl⟩ := List.mem_map.mp hc
    intro e
    have := (isort_perm d).length_eq
    rw [e] at this
    exact rnds_ne h d hd (List.length_eq_zero_iff.mp this.symm)
  srt := fun c hc => by
    obtain ⟨d, hd, rfl⟩ := List.mem_map.mp hc
    exact isort_sorted d
theorem sm_isort {ls : List (List Int)} {a b : Int} : sm (ls.map isort) a b ↔ sm ls a b := by
  constructor
  · rintro ⟨c, hc, h1, h2⟩
    obtain ⟨d, hd, rfl⟩ := List.mem_map.mp hc
    exact ⟨d, hd, mem_isort.mp h1, mem_isort.mp h2⟩
  · rintro ⟨d, hd, h1, h2⟩
    exact ⟨_, List.mem_map.mpr ⟨d, hd, rfl⟩, mem_isort.mpr h1, mem_isort.mpr h2⟩
theorem rnds_nodup (h : IsOrd n o) : (rnds o).Nodup := by
  have := List.pairwise_flatten.mp (rnds_ok h).nd
  refine (List.Pairwise.imp_of_mem ?_ this.2)
  intro a b ha hb hab e
  subst e
  obtain ⟨x, hx⟩ := List.exists_mem_of_ne_nil a (rnds_ne h a ha)
  exact hab x hx x hx rfl
end
theorem nth1_ledR {n : Nat} {row : List (Int × Int)} {t : Int} (ht : 1 ≤ t ∧ t ≤ n) : nth1 (ledR n row) t = follow row t := by
  rw [ledR_map]; exact nth1_upTo _ ht
theorem orb_part {n : Nat} {row : List (Int × Int)} (h : RowOk n row) {a b : Int} (hs : sm (rnds (ledR n row)) a b) : sm (prt n row) a b := by
  obtain ⟨c, hc, ha, hb⟩ := hs
  have ho := ledR_ord h.in
  have hpt : Ptn n (prt n row) := prt_ptn fun q hq => by have := h q hq; omega
  obtain ⟨f, hf, rfl⟩ := (rnds_ok ho).is c hc
  have key : ∀ g ∈ cyc (ledR n row) f, sm (prt n row) f g := cyc_steps ho hf (S := fun g => sm (prt n row) f g) (fun g hg hs => by
    rw [nth1_ledR hg]
    exact sm_trans hpt.nd hs (sm_follow row.length row rfl h g hg)) (hpt.refl hf)
  exact sm_trans hpt.nd (sm_symm (key a ha)) (key b hb)
/-- the part that has a thing -/
def partAt (ls : List (List Int)) (x : Int) : List Int := (ls.find? (fun c => decide (x ∈ c))).getD []
theorem partAt_ok {n : Nat} {ls : List (List Int)} (h : Ptn n ls) {x : Int} (hx : 1 ≤ x ∧ x ≤ n) : partAt ls x ∈ ls ∧ x ∈ partAt ls x := by
  unfold partAt
  obtain ⟨c, hc, xc⟩ := List.mem_flatten.mp ((h.cov x).mpr hx)
  cases q : ls.find? (fun c => decide (x ∈ c)) with
  | none => exact absurd xc (by simpa using List.find?_eq_none.mp q c hc)
  | some d => exact ⟨List.mem_of_find?_eq_some q, by simpa using List.find?_some q⟩
theorem surj_inj {α β : Type} [DecidableEq α] [DecidableEq β] {A : List α} {B : List β} (g : β → α) (hA : A.Nodup) (hB : B.Nodup) (hs : ∀ a ∈ A, ∃ b ∈ B, g b = a) : A.length ≤ B.length ∧ (A.length = B.length → ∀ x ∈ B, ∀ y ∈ B, g x = g y → x = y) := by
  constructor
  · have := nodup_sub_len hA (ys := B.map g) fun a ha => by
      obtain ⟨b, hb, e⟩ := hs a ha
      exact List.mem_map.mpr ⟨b, hb, e⟩
    simpa using this
  · intro hl x hx y hy e
    refine Classical.byContradiction fun ne => ?_
    have := nodup_sub_len hA (ys := (B.erase y).map g) fun a ha => by
      obtain ⟨b, hb, e2⟩ := hs a ha
      by_cases c : b = y
      · exact List.mem_map.mpr ⟨x, (List.mem_erase_of_ne ne).mpr hx, by rw [e, ← c, e2]⟩
      · exact List.mem_map.mpr ⟨b, (List.mem_erase_of_ne c).mpr hb, e2⟩
    rw [List.length_map, List.length_erase_of_mem hy] at this
    have := List.length_pos_of_mem hy
    omega
theorem headD_mem {c : List Int} (h : c ≠ []) : c.headD 0 ∈ c := by cases c with | nil => exact absurd rfl h | cons a c => simp
theorem parts_rounds {n : Nat} {row : List (Int × Int)} (h : RowOk n row) : (prt n row).length ≤ (rnds (ledR n row)).length ∧ ((prt n row).length = (rnds (ledR n row)).length → partsR n row = lsort ((rnds (ledR n row)).map isort)) := by
  have ho := ledR_ord h.in
  have hpt : Ptn n (prt n row) := prt_ptn fun q hq => by have := h q hq; omega
  have hin : ∀ c ∈ rnds (ledR n row), ∀ x ∈ c, 1 ≤ x ∧ x ≤ (n : Int) := fun c hc x hx => (rnds_cov ho x).mp (List.mem_flatten.mpr ⟨c, hc, hx⟩)
  have at_ : ∀ c ∈ rnds (ledR n row), ∀ x ∈ c, partAt (prt n row) (c.headD 0) = partAt (prt n row) x := fun c hc x hx => by
    have hm := headD_mem (rnds_ne ho c hc)
    obtain ⟨d, hd, d1, d2⟩ := orb_part h ⟨c, hc, hm, hx⟩
    obtain ⟨a1, a2⟩ := partAt_ok hpt (hin c hc _ hm)
    obtain ⟨b1, b2⟩ := partAt_ok hpt (hin c hc x hx)
    rw [flat_one hpt.nd a1 hd a2 d1, flat_one hpt.nd b1 hd b2 d2]
  have hs : ∀ a ∈ prt n row, ∃ b ∈ rnds (ledR n row), partAt (prt n row) (b.headD 0) = a := fun a ha => by
    obtain ⟨x, hx⟩ := List.exists_mem_of_ne_nil a (hpt.ne a ha)
    have hx2 := (hpt.cov x).mp (List.mem_flatten.mpr ⟨a, ha, hx⟩)
    obtain ⟨c, hc, xc⟩ := List.mem_flatten.mp ((rnds_cov ho x).mpr hx2)
    refine ⟨c, hc, ?_⟩
    rw [at_ c hc x xc]
    obtain ⟨a1, a2⟩ := partAt_ok hpt hx2
    exact flat_one hpt.nd a1 ha a2 hx
  obtain ⟨h1, h2⟩ := surj_inj (fun c : List Int => partAt (prt n row) (c.headD 0)) hpt.nds (rnds_nodup ho) hs
  refine ⟨h1, fun e => ?_⟩
  refine hpt.eq (rnds_ptn ho) fun a b => ⟨fun ⟨c, hc, ha, hb⟩ => ?_, fun hh => orb_part h (sm_isort.mp hh)⟩
  have ha2 := (hpt.cov a).mp (List.mem_flatten.mpr ⟨c, hc, ha⟩)
  have hb2 := (hpt.cov b).mp (List.mem_flatten.mpr ⟨c, hc, hb⟩)
  obtain ⟨d, hd, ad⟩ := List.mem_flatten.mp ((rnds_cov ho a).mpr ha2)
  obtain ⟨d', hd', bd⟩ := List.mem_flatten.mp ((rnds_cov ho b).mpr hb2)
  have p1 := partAt_ok hpt ha2
  have p2 := partAt_ok hpt hb2
  have := h2 e d hd d' hd' (by
    rw [at_ d hd a ad, at_ d' hd' b bd, flat_one hpt.nd p1.1 hc p1.2 ha, flat_one hpt.nd p2.1 hc p2.2 hb])
  exact sm_isort.mpr ⟨d, hd, ad, by rw [this]; exact bd⟩
/-- the parts of a least row are the rounds -/
theorem least_parts {n : Nat} {row : List (Int × Int)} (h : RowOk n row) (hl : row.length + (rnds (ledR n row)).length = n) : partsR n row = lsort ((rnds (ledR n row)).map isort) := by
  obtain ⟨h1, h2⟩ := parts_rounds h
  have := prt_len row.length row rfl h
  exact h2 (by omega)
/-! how many -/
theorem step_cyc {n : Nat} {o : List Int} (h : IsOrd n o) {f : Int} (hf : 1 ≤ f ∧ f ≤ n) : ∀ k, stepN o k f ∈ cyc o f
  | 0 => cyc_self o f
  | k + 1 => by rw [stepN_succ]; exact cyc_fwd h hf (step_cyc h hf k)
theorem join_cyc {n : Nat} {o : List Int} (h : IsOrd n o) {a b : Int} (ha : 1 ≤ a ∧ a ≤ n) (hb : 1 ≤ b ∧ b ≤ n) (hn : b ∉ cyc o a) : b ∈ cyc (o.map (ledT (a, b))) a := by
  obtain ⟨p, p1, p2, p3, p4⟩ := period h ha
  have ho : IsOrd n (o.map (ledT (a, b))) := ledT_ord h (by omega)
  have same : ∀ k, k < p → stepN (o.map (ledT (a, b))) k a = stepN o k a := by
    intro k
    induction k with
    | zero => intro _; rfl
    | succ k ih =>
      intro hk
      rw [stepN_succ, ih (by omega), nth1_map h.len (stepN_in h k ha), ← stepN_succ]
      have n1 : stepN o (k + 1) a ≠ a := p4 (k + 1) (by omega) hk
      have n2 : stepN o (k + 1) a ≠ b := fun e => hn (e ▸ step_cyc h ha (k + 1))
      unfold ledT
      simp [n1, n2]
  have e : stepN (o.map (ledT (a, b))) p a = b := by
    obtain ⟨q, rfl⟩ : ∃ q, p = q + 1 := ⟨p - 1, by omega⟩
    rw [stepN_succ, same q (by omega), nth1_map h.len (stepN_in h q ha), ← stepN_succ, p3]
    unfold ledT
    simp
  have := step_cyc ho ha p
  rwa [e] at this
theorem map_led_twice (o : List Int) (p : Int × Int) : (o.map (ledT p)).map (ledT p) = o := by
  rw [List.map_map]
  have : (ledT p ∘ ledT p) = id := funext fun t => led_inv p t
  rw [this]; simp
theorem ledR_snoc (n : Nat) (row : List (Int × Int)) (p : Int × Int) : ledR n (row ++ [p]) = (ledR n row).map (ledT p) := by unfold ledR; rw [List.foldl_append]; rfl
theorem joinL_same {n : Nat} {ls : List (List Int)} (h : Ptn n ls) {p : Int × Int} (hs : sm ls p.1 p.2) : (joinL ls p).length = ls.length := by
  obtain ⟨c, hc, c1, c2⟩ := hs
  have e : ls.filter (hit p) = ls.filter (fun d => decide (d = c)) := by
    refine List.filter_congr fun d hd => ?_
    unfold hit
    by_cases q : d = c
    · subst q; simp [c1]
    · have q1 : p.1 ∉ d := fun z => q (flat_one h.nd hd hc z c1)
      have q2 : p.2 ∉ d := fun z => q (flat_one h.nd hd hc z c2)
      simp [q, q1, q2]
  have one : (ls.filter (hit p)).length = 1 := by
    rw [e, ← List.countP_eq_length_filter]
    have := h.nds.count (a := c)
    have e2 : ls.countP (fun d => decide (d = c)) = ls.count c := by
      unfold List.count
      refine List.countP_congr fun d _ => by simp
    rw [e2, this, if_pos hc]
  have e3 := (List.filter_append_perm (hit p) ls).length_eq
  rw [List.length_append] at e3
  unfold joinL
  rw [List.length_append, List.length_singleton]
  have : (ls.filter (fun c => !hit p c)).length = (ls.filter (fun x => !hit p x)).length := rfl
  omega
theorem joinL_le {n : Nat} {ls : List (List Int)} (h : Ptn n ls) {p : Int × Int} (hp : 1 ≤ p.1 ∧ p.1 ≤ n) : (joinL ls p).length ≤ ls.length := by
  have e3 := (List.filter_append_perm (hit p) ls).length_eq
  rw [List.length_append] at e3
  obtain ⟨c, hc, pc⟩ := List.mem_flatten.mp ((h.cov p.1).mpr hp)
  have : 0 < (ls.filter (hit p)).length := List.length_pos_of_mem (List.mem_filter.mpr ⟨hc, by simp [hit, pc]⟩)
  unfold joinL
  rw [List.length_append, List.length_singleton]
  have : (ls.filter (fun c => !hit p c)).length = (ls.filter (fun x => !hit p x)).length := rfl
  omega
theorem holes_ex {n : Nat} : ∀ (m : Nat) (row : List (Int × Int)), row.length = m → RowOk n row → ∃ g : Nat, m + 2 * (prt n row).length = n + (rnds (ledR n row)).length + 2 * g
  | 0, row, hl, _ => by
    have : row = [] := List.length_eq_zero_iff.mp hl
    subst this
    have e1 : (prt n []).length = n := by show (alone n).length = n; simp [alone, upTo_len]
    have e2 : (rnds (ledR n [])).length = n := rnds_plain (upTo_ord n) fun t ht => by
      show nth1 (C.upTo n) t = t
      have := nth1_upTo (n := n) id (g := t) ht
      simpa using this
    exact ⟨0, by omega⟩
  | m + 1, row, hl, hr => by
    obtain ⟨r, p, rfl⟩ : ∃ r p, row = r ++ [p] := ⟨row.dropLast, row.getLast (by intro e; rw [e] at hl; simp at hl), (List.dropLast_concat_getLast _).symm⟩
    have hr' : RowOk n r := fun q hq => hr q (by simp [hq])
    have hp := hr p (by simp)
    obtain ⟨g, hg⟩ := holes_ex m r (by simpa using hl) hr'
    have hpt : Ptn n (prt n r) := prt_ptn fun q hq => by have := hr' q hq; omega
    have ho := ledR_ord hr'.in
    have l1 := joinL_len hpt p
    have l2 := joinL_le (p := p) hpt (by omega)
    rw [prt_snoc, ledR_snoc]
    by_cases c : p.2 ∈ cyc (ledR n r) p.1
    · have e1 := rnds_cut ho (a := p.1) (b := p.2) (by omega) c (by omega)
      have hin := (rnds_cov ho p.1).mpr (by omega)
      obtain ⟨d, hd, pd⟩ := List.mem_flatten.mp hin
      have hsm : sm (rnds (ledR n r)) p.1 p.2 := by
        obtain ⟨f, hf, rfl⟩ := (rnds_ok ho).is d hd
        exact ⟨_, hd, pd, cyc_steps ho (f := p.1) (by omega) (S := fun g => g ∈ cyc (ledR n r) f) (fun g _ hs => cyc_fwd ho hf hs) pd p.2 c⟩
      have e2 := joinL_same hpt (orb_part hr' hsm)
      refine ⟨g, ?_⟩
      have e3 : (rnds (List.map (ledT p) (ledR n r))).length = (rnds (ledR n r)).length + 1 := e1
      omega
    · have hj := join_cyc ho (a := p.1) (b := p.2) (by omega) (by omega) c
      have ho2 : IsOrd n ((ledR n r).map (ledT (p.1, p.2))) := ledT_ord ho (by omega)
      have e1 := rnds_cut ho2 (a := p.1) (b := p.2) (by omega) hj (by omega)
      rw [map_led_twice] at e1
      have e3 : (rnds (List.map (ledT p) (ledR n r))).length = (rnds ((ledR n r).map (ledT (p.1, p.2)))).length := rfl
      by_cases c2 : (joinL (prt n r) p).length = (prt n r).length
      · exact ⟨g + 1, by omega⟩
      · exact ⟨g, by omega⟩
end C
end VI
namespace VI
open PySem PySem.Spec PyProof.Rows L2
namespace C
def lD (k : List Int) : D := .lst (k.map D.int)
theorem lstL_eq (ls : List (List Int)) : lstL ls = .lst (ls.map lD) := rfl
theorem hasKs_lists : ∀ ls : List (List Int), hasKs (.lst .int) (ls.map lD) = true
  | [] => rfl
  | k :: ls => by
    show (hasK (.lst .int) (lD k) && hasKs (.lst .int) (ls.map lD)) = true
    rw [hasKs_lists ls, Bool.and_true]
    show hasKs .int (k.map D.int) = true
    exact C.hasKs_ints k
theorem sortD_lists (ls : List (List Int)) : sortD false (ls.map lD) = some ((lsort ls).map lD) := by
  unfold sortD
  cases ls with
  | nil => rfl
  | cons a ls =>
    have hk : kindOf ((a :: ls).map lD) = some (.lst .int) := by
      unfold kindOf
      have h1 : ((a :: ls).map lD).all notNil = true := by
        rw [List.all_eq_true]
        intro d hd
        obtain ⟨k, _, rfl⟩ := List.mem_map.mp hd
        rfl
      rw [if_pos h1]
      have h2 : hasKs .int ((a :: ls).map lD) = false := rfl
      have h3 : hasKs .str ((a :: ls).map lD) = false := rfl
      have h4 := hasKs_lists (a :: ls)
      unfold kinds
      rw [List.find?_cons, h2, List.find?_cons, h3, List.find?_cons, h4]
    rw [hk]
    show some (insort (leK (.lst .int) false) ((a :: ls).map lD)) = _
    have e : ∀ x y : List Int, leR x y = leK (.lst .int) false (lD x) (lD y) := fun x y => by
      show (!ltI y x) = (!ltKs .int (y.map .int) (x.map .int))
      rw [ltKs_ints]
    have e2 : (leR : List Int → List Int → Bool) = fun x y => leK (.lst .int) false (lD x) (lD y) := funext fun x => funext fun y => e x y
    unfold lsort
    rw [e2, VI.insort_map lD]
theorem flat_filter (f : List Int → Bool) : ∀ l : List (List Int), (l.filter f).flatten.length ≤ l.flatten.length
  | [] => Nat.le_refl _
  | c :: l => by
    have := flat_filter f l
    rw [List.filter_cons]
    split
    · rw [List.flatten_cons, List.flatten_cons, List.length_append, List.length_append]; omega
    · rw [List.flatten_cons, List.length_append]; omega
def JoinedL (cs : CS) : Prop := cs.io "joined_lists" = [true, false] ∧ ∀ (ls : List (List Int)) (p : Int × Int), ls.length ≤ 1000 → ls.flatten.length ≤ 1000 → cs.run "joined_lists" [(.lst (ls.map lD), .full), (tup2 p, .sh)] = .ret (.lst ((joinL ls p).map lD)) .full [.none, .none]
theorem joinedL_ok {fs : List Fn} (h : Has fs f_joined_lists) (k : Nat) : JoinedL (csOf fs (k + 1)) := by
  refine ⟨h.io _, fun ls p hl hf => ?_⟩
  rw [show ("joined_lists" : Str) = f_joined_lists.name from rfl, h.run _ rfl (by decide)]
  generalize csOf fs k = cs
  have key : ∃ e', forL (forF cs (.nm 4) (bl [.ite (.or (.cmp .isin (.sub (.var 1) (.int 0)) (.var 4)) (.cmp .isin (.sub (.var 1) (.int 1)) (.var 4))) (bl [.ext 2 (.mov 4)]) (bl [.app 3 (.mov 4)])])) (ls.map fun c => (lD c, Lv.full)) [Slot.none, .own (tup2 p) .sh, .own (.lst (([] : List Int).map D.int)) .full, .own (.lst (([] : List (List Int)).map lD)) .full, .none] = .nx e' ∧
      ∃ s4, e' = [Slot.none, .own (tup2 p) .sh, .own (.lst ((ls.filter (hit p)).flatten.map D.int)) .full, .own (.lst ((ls.filter (fun c => !hit p c)).map lD)) .full, s4] := by
    refine forL_inv (fun c => (lD c, Lv.full)) (fun done e => ∃ s4, e = [Slot.none, .own (tup2 p) .sh, .own (.lst ((done.filter (hit p)).flatten.map D.int)) .full, .own (.lst ((done.filter (fun c => !hit p c)).map lD)) .full, s4]) ls ls [] _ (by simp) ⟨.none, rfl⟩ ?_
    rintro done c rest e hd ⟨s4, rfl⟩
    have c1 := DE_int.cmpIn (by decide) p.1 c
    have c2 := DE_int.cmpIn (by decide) p.2 c
    have fl : (done.filter (hit p)).flatten.length + c.length ≤ 1000 := by
      have e1 : ls.flatten.length = done.flatten.length + (c.length + rest.flatten.length) := by rw [← hd]; simp
      have e2 : (done.filter (hit p)).flatten.length ≤ done.flatten.length := flat_filter _ _
      omega
    have z1 : (done.filter (hit p)).flatten.length + c.length ≤ sizeLine := line0 fl
    have z2 : (done.filter (fun c => !hit p c)).length < sizeLine := by
      have : (done.filter (fun c => !hit p c)).length ≤ done.length := List.length_filter_le ..
      have : done.length ≤ ls.length := by rw [← hd]; simp
      exact line5 (by omega)
    have at0 : atI [D.int p.1, D.int p.2] 0 = some (.int p.1) := rfl
    have at1 : atI [D.int p.1, D.int p.2] 1 = some (.int p.2) := rfl
    have imc : imm (lD c) = false := rfl
    rw [forF_K]
    by_cases hh : hit p c = true
    · refine ⟨[Slot.none, .own (tup2 p) .sh, .own (.lst (((done ++ [c]).filter (hit p)).flatten.map D.int)) .full, .own (.lst (((done ++ [c]).filter (fun c => !hit p c)).map lD)) .full, .none], ?_, _, rfl⟩
      have e1 : (done ++ [c]).filter (hit p) = done.filter (hit p) ++ [c] := by simp [List.filter_append, hh]
      have e2 : (done ++ [c]).filter (fun c => !hit p c) = done.filter (fun c => !hit p c) := by simp [List.filter_append, hh]
      rw [e1, e2]
      unfold hit at hh
      try rw [List.flatten_append, List.flatten_singleton]
      generalize (done.filter (hit p)).flatten = a1 at *
      generalize done.filter (fun c => !hit p c) = a2 at *
      by_cases d1 : p.1 ∈ c
      · simp -implicitDefEqProofs [tup2, lD, c1, c2, d1, at0, at1, z1]
      · have d2 : p.2 ∈ c := by simpa [d1] using hh
        simp -implicitDefEqProofs [tup2, lD, c1, c2, d1, d2, at0, at1, z1]
    · refine ⟨[Slot.none, .own (tup2 p) .sh, .own (.lst (((done ++ [c]).filter (hit p)).flatten.map D.int)) .full, .own (.lst (((done ++ [c]).filter (fun c => !hit p c)).map lD)) .full, .none], ?_, _, rfl⟩
      have e1 : (done ++ [c]).filter (hit p) = done.filter (hit p) := by simp [List.filter_append, hh]
      have e2 : (done ++ [c]).filter (fun c => !hit p c) = done.filter (fun c => !hit p c) ++ [c] := by simp [List.filter_append, hh]
      rw [e1, e2]
      unfold hit at hh
      try rw [List.flatten_append, List.flatten_singleton]
      generalize (done.filter (hit p)).flatten = a1 at *
      generalize done.filter (fun c => !hit p c) = a2 at *
      have d1 : p.1 ∉ c := fun z => hh (by simp [z])
      have d2 : p.2 ∉ c := fun z => hh (by simp [z])
      simp -implicitDefEqProofs [tup2, lD, c1, c2, d1, d2, at0, at1, z2]
  obtain ⟨e', h1, s4, rfl⟩ := key
  have zj : (ls.filter (fun c => !hit p c)).length + 1 ≤ sizeLine := by
    have : (ls.filter (fun c => !hit p c)).length ≤ ls.length := List.length_filter_le ..
    have := line5 (n := (ls.filter (fun c => !hit p c)).length) (by omega)
    omega
  have so := sortD_ints (ls.filter (hit p)).flatten
  unfold f_joined_lists joinL
  simp only [bl, List.map_nil, lD] at h1
  generalize (ls.filter (hit p)).flatten = a1 at *
  generalize ls.filter (fun c => !hit p c) = a2 at *
  simp -implicitDefEqProofs [h1, Function.comp_def, so, zj, lD, opLL]
def Parts (cs : CS) : Prop := cs.io "parts" = [false, false] ∧ ∀ (n : Nat) (row : List (Int × Int)), n ≤ 900 → (∀ p ∈ row, 1 ≤ p.1 ∧ p.1 ≤ n) → cs.run "parts" [(.int n, .sh), (lstP row, .sh)] = .ret (.lst ((partsR n row).map lD)) .full [.none, .none]
theorem ptn_len {n : Nat} {ls : List (List Int)} (h : Ptn n ls) : ls.length ≤ n ∧ ls.flatten.length = n := by
  have e : ls.flatten.length = n := by
    have h1 := C.nodup_le n ls.flatten h.nd fun x hx => (h.cov x).mp hx
    have h2 := nodup_sub_len (upTo_nodup n) fun x hx => (h.cov x).mpr (upTo_mem.mp hx)
    rw [upTo_len] at h2
    omega
  have g : ∀ l : List (List Int), (∀ c ∈ l, c ≠ []) → l.length ≤ l.flatten.length := by
    intro l
    induction l with
    | nil => simp
    | cons c l ih =>
      intro hh
      have q1 := ih fun d hd => hh d (List.mem_cons_of_mem _ hd)
      have q2 := List.length_pos_iff.mpr (hh c List.mem_cons_self)
      rw [List.flatten_cons, List.length_append, List.length_cons]; omega
  exact ⟨by have := g ls h.ne; omega, e⟩
theorem parts_ok {fs : List Fn} (h : Has fs f_parts) {k : Nat} (hJ : JoinedL (csOf fs k)) : Parts (csOf fs (k + 1)) := by
  refine ⟨h.io _, fun n row hn hr => ?_⟩
  rw [show ("parts" : Str) = f_parts.name from rfl, h.run _ rfl (by decide)]
  generalize csOf fs k = cs at *
  obtain ⟨iJ, rJ⟩ := hJ
  have key : ∃ e', forL (forF cs (.nm 3) (bl [.asg (.nm 2) (.call "joined_lists" (.cons (.var 2) (.cons (.var 3) .nil)))])) (row.map fun p => (tup2 p, Lv.full)) [Slot.own (.int n) .sh, .none, .own (.lst ((alone n).map lD)) .full, .none, .none] = .nx e' ∧
      ∃ s3, e' = [Slot.own (.int n) .sh, .none, .own (.lst ((prt n row).map lD)) .full, s3, .none] := by
    refine forL_inv (fun p => (tup2 p, Lv.full)) (fun done e => ∃ s3, e = [Slot.own (.int n) .sh, .none, .own (.lst ((prt n done).map lD)) .full, s3, .none]) row row [] _ (by simp) ⟨.none, rfl⟩ ?_
    rintro done p rest e hd ⟨s3, rfl⟩
    have hpt : Ptn n (prt n done) := prt_ptn fun q hq => hr q (by rw [← hd]; simp [hq])
    have hl := ptn_len hpt
    have r1 := rJ (prt n done) p (by omega) (by omega)
    rw [forF_K]
    refine ⟨[Slot.own (.int n) .sh, .none, .own (.lst ((prt n (done ++ [p])).map lD)) .full, .own (tup2 p) .full, .none], ?_, _, rfl⟩
    rw [prt_snoc]
    simp -implicitDefEqProofs [iJ, r1]
  obtain ⟨e', h1, s3, rfl⟩ := key
  have hrg := range_up 1 (n + 1) (by omega)
  have e0 : ((n : Int) + 1 - 1).toNat = n := by omega
  rw [e0] at hrg
  have z0 : (rangeI 1 n 1).length ≤ sizeLine := by simp [rangeI]; exact line0 (by omega)
  have cm : compL (compF cs (.nm 4) [4] .no (.lst (.cons (.mov 4) .nil))) 0 ((rangeI 1 n 1).map fun x => (D.int x, Lv.full)) [Slot.own (.int n) .sh, .own (lstP row) .sh, .none, .none, .none] = .ok ((rangeI 1 n 1).map fun x => (lD [x], Lv.full)) [Slot.own (.int n) .sh, .own (lstP row) .sh, .none, .none, .none] := by
    refine compL_map (fun x => (D.int x, Lv.full)) (fun x => (lD [x], Lv.full)) _ (rangeI 1 n 1) 0 (by omega) fun x hx => ?_
    have z1 : 1 ≤ sizeLine := by rw [sizeLine_eq]; decide
    unfold compF
    simp -implicitDefEqProofs [lD, z1]
  have so := sortD_lists (prt n row)
  have ea : (rangeI 1 n 1).map (fun x => lD [x]) = (alone n).map lD := by unfold alone; rw [List.map_map]; rfl
  unfold f_parts partsR
  simp only [bl] at h1
  rw [← ea] at h1
  simp only [lstP] at cm
  have im : immL (row.map tup2) = true := immL_map (fun p => rfl) row
  simp -implicitDefEqProofs [hrg, cm, Function.comp_def, lstP, im, h1, so]
end C
end VI
namespace VI
open PySem PySem.Spec PyProof.Rows L2
namespace C
theorem DE_lD : DE lD 1 := DE_int.lst
theorem immL_lD {l : List (List Int)} (h : l ≠ []) : immL (l.map lD) = false := by
  cases l with
  | nil => exact absurd rfl h
  | cons a l => rfl
/-! ### a least row, made from its end -/
def LeastRow (cs : CS) : Prop := cs.io "_law_least_row" = [true, false] ∧ ∀ (N : Nat) (d : D) (n : Nat) (o : List Int), PurseOk N d → N < 50000 → IsOrd n o → 1 ≤ n → n ≤ 100 →
  ∃ row d', cs.run "_law_least_row" [(d, .full), (tupI o, .sh)] = .ret (lstP row) .full [.own d' .full, .none] ∧ RowOk n row ∧ ledR n row = o ∧ row.length + (rnds o).length = n ∧ PurseOk (N + 300) d'
def longs (o : List Int) : List (List Int) := (rnds o).filter (fun c => decide (1 < c.length))
theorem short_fix {n : Nat} {o : List Int} (h : IsOrd n o) (hl : longs o = []) : ∀ t : Int, 1 ≤ t ∧ t ≤ n → nth1 o t = t := fun t ht => by
  obtain ⟨c, hc, tc⟩ := List.mem_flatten.mp ((rnds_cov h t).mpr ht)
  have hn : ¬ 1 < c.length := fun z => by
    have : c ∈ longs o := List.mem_filter.mpr ⟨hc, decide_eq_true z⟩
    rw [hl] at this; cases this
  obtain ⟨f, hf, rfl⟩ := (rnds_ok h).is c hc
  have h2 := cyc_fwd h hf tc
  match q : cyc o f with
  | [] => exact absurd q (cyc_ne o f)
  | [x] =>
    rw [q] at tc h2
    rw [List.mem_singleton.mp tc] at h2 ⊢
    exact List.mem_singleton.mp h2
  | x :: y :: r => rw [q] at hn; simp at hn
theorem longs_cut {n : Nat} {o : List Int} (h : IsOrd n o) {c : List Int} (hc : c ∈ longs o) {i j : Nat} (hi : i < c.length) (hj : j < c.length) (hij : i ≠ j) :
    (1 ≤ c[i] ∧ c[i] ≤ n) ∧ (1 ≤ c[j] ∧ c[j] ≤ n) ∧ c[i] ≠ c[j] ∧ c[j] ∈ cyc o c[i] := by
  obtain ⟨h1, h2⟩ := List.mem_filter.mp hc
  obtain ⟨f, hf, rfl⟩ := (rnds_ok h).is c h1
  have a1 := cyc_in h hf _ (List.getElem_mem hi)
  have a2 := cyc_in h hf _ (List.getElem_mem hj)
  refine ⟨a1, a2, fun e => hij ?_, ?_⟩
  · exact (List.getElem_inj (cyc_nodup h hf)).mp e
  · obtain ⟨p, p1, p2, p3, p4, p5⟩ := cyc_orb h hf
    have m1 : (cyc o f)[i] ∈ orb o f p := by rw [← p5]; exact List.getElem_mem hi
    have m2 : (cyc o f)[j] ∈ orb o f p := by rw [← p5]; exact List.getElem_mem hj
    obtain ⟨k, hk⟩ := orb_reach p1 p3 m1 m2
    have := step_cyc h a1 k
    rwa [hk] at this
def lrB : Ss := bl [.asg (.nm 5) (.sub (.var 4) (.call "_law_take" (.cons (.var 0) (.cons (.b1 .len (.var 4)) .nil)))),
    .asg (.nm 6) (.call "_law_take" (.cons (.var 0) (.cons (.b1 .len (.var 5)) .nil))),
    .asg (.nm 7) (.op .mod (.op .add (.op .add (.var 6) (.int 1)) (.call "_law_take" (.cons (.var 0) (.cons (.op .sub (.b1 .len (.var 5)) (.int 1)) .nil)))) (.b1 .len (.var 5))),
    .asg (.nm 8) (.b2 .min (.sub (.var 5) (.var 6)) (.sub (.var 5) (.var 7))),
    .asg (.nm 9) (.b2 .max (.sub (.var 5) (.var 6)) (.sub (.var 5) (.var 7))),
    .asg (.nm 3) (.comp (.nm 10) [10] (.val (.mov 3)) .no (.b3 .get (.disp (.cons (.var 8) (.cons (.var 9) (.cons (.var 9) (.cons (.var 8) .nil))))) (.var 10) (.var 10))),
    .ins 2 (.int 0) (.tup (.cons (.mov 8) (.cons (.mov 9) .nil))),
    .asg (.nm 4) (.comp (.nm 5) [5] (.val (.call "_law_rounds" (.cons (.b1 .tuple (.var 3)) .nil))) (.so (.cmp .gt (.b1 .len (.var 5)) (.int 1))) (.mov 5))]
theorem leastRow_ok {fs : List Fn} (h : Has fs f__law_least_row) {k : Nat} (hT : Take (csOf fs k)) (hR : LawRounds (csOf fs k)) : LeastRow (csOf fs (k + 1)) := by
  refine ⟨h.io _, fun N d n o hd hN ho hn1 hn => ?_⟩
  rw [show ("_law_least_row" : Str) = f__law_least_row.name from rfl, h.run _ rfl (by decide)]
  generalize csOf fs k = cs at *
  obtain ⟨iT, rT⟩ := hT
  obtain ⟨iR, rR⟩ := hR
  have cmp1 : ∀ (o : List Int) (s0 s1 s2 s3 s4 s6 s7 s8 s9 s10 : Slot), IsOrd n o → compL (compF cs (.nm 5) [5] (.so (.cmp .gt (.b1 .len (.var 5)) (.int 1))) (.mov 5)) 0 ((rnds o).map fun c => (lD c, Lv.full)) [s0, s1, s2, s3, s4, .none, s6, s7, s8, s9, s10] =
      .ok ((longs o).map fun c => (lD c, Lv.full)) [s0, s1, s2, s3, s4, .none, s6, s7, s8, s9, s10] := by
    intro o s0 s1 s2 s3 s4 s6 s7 s8 s9 s10 ho
    refine compL_filter (fun c => (lD c, Lv.full)) (fun c => decide (1 < c.length)) (fun c => (lD c, Lv.full)) _ (rnds o) 0 (by have := rnds_len_le ho; have := line0 (n := (rnds o).length) (by omega); omega) fun c hc => ?_
    unfold compF
    by_cases q : 1 < c.length
    · have q2 : (1 : Int) < c.length := by omega
      simp -implicitDefEqProofs [lD, q, q2]
    · have q2 : ¬ (1 : Int) < c.length := by omega
      simp -implicitDefEqProofs [lD, q, q2]
  let Inv : Nat → Env → Prop := fun m e => ∃ (row : List (Int × Int)) (o' : List Int) (d' : D) (s5 s6 s7 s8 s9 : Slot), e = [Slot.own d' .full, .none, .own (.lst (row.map tup2)) .full, .own (.lst (o'.map D.int)) .full, .own (.lst ((longs o').map lD)) .full, s5, s6, s7, s8, s9, .none] ∧
    IsOrd n o' ∧ RowOk n row ∧ (∀ t : Int, 1 ≤ t ∧ t ≤ n → follow row (nth1 o' t) = nth1 o t) ∧ (rnds o').length = (rnds o).length + row.length ∧ PurseOk (N + 3 * row.length) d' ∧ m = n - (rnds o').length
  have kw : ∀ e, Inv (n - (rnds o).length) e → ∃ e', whlL (whlT cs (.cmp .gt (.b1 .len (.var 4)) (.int 0))) (whlF cs lrB) turns e = .nx e' ∧ ∃ (row : List (Int × Int)) (o' : List Int) (d' : D) (s4 s5 s6 s7 s8 s9 : Slot), e' = [Slot.own d' .full, .none, .own (.lst (row.map tup2)) .full, .own (.lst (o'.map D.int)) .full, s4, s5, s6, s7, s8, s9, .none] ∧
      longs o' = [] ∧ IsOrd n o' ∧ RowOk n row ∧ (∀ t : Int, 1 ≤ t ∧ t ≤ n → follow row (nth1 o' t) = nth1 o t) ∧ (rnds o').length = (rnds o).length + row.length ∧ PurseOk (N + 3 * row.length) d' := by
    intro e hI
    refine whlL_run Inv _ ?_ turns (n - (rnds o).length) e hI (by unfold turns; omega)
    rintro m e ⟨row, o', d', s5, s6, s7, s8, s9, rfl, ho', hrow, hf, hr, hd', rfl⟩
    have rl := rnds_len_le ho'
    by_cases c : longs o' = []
    · left
      refine ⟨_, ?_, row, o', d', .own (.lst ((longs o').map lD)) .full, s5, s6, s7, s8, s9, rfl, c, ho', hrow, hf, hr, hd'⟩
      unfold whlT
      rw [c]
      simp -implicitDefEqProofs
    · right
      have hl0 : 0 < (longs o').length := List.length_pos_iff.mpr c
      obtain ⟨r1, d1, q1, a1, a2, p1⟩ := rT _ d' (longs o').length hd' (by omega) (by omega) (by have : (longs o').length ≤ (rnds o').length := List.length_filter_le ..; omega)
      obtain ⟨i1, rfl⟩ : ∃ i1 : Nat, r1 = i1 := ⟨r1.toNat, by omega⟩
      obtain ⟨cc, hcc⟩ : ∃ cc, (longs o')[i1]'(by omega) = cc := ⟨_, rfl⟩
      have hcm : cc ∈ longs o' := by rw [← hcc]; exact List.getElem_mem _
      have hat : atI ((longs o').map lD) (i1 : Int) = some (.lst (cc.map D.int)) := by rw [atN lD (by omega), hcc]; rfl
      have cl1 : 1 < cc.length := of_decide_eq_true (List.mem_filter.mp hcm).2
      have cl2 : cc.length ≤ n + 1 := by
        obtain ⟨f, hf, e⟩ := (rnds_ok ho').is cc (List.mem_filter.mp hcm).1
        rw [e]; exact cyc_len ho' f
      clear hcc
      obtain ⟨r2, d2, q2, b1, b2, p2⟩ := rT _ d1 cc.length p1 (by omega) (by omega) (by omega)
      obtain ⟨i2, rfl⟩ : ∃ i2 : Nat, r2 = i2 := ⟨r2.toNat, by omega⟩
      obtain ⟨r3, d3, q3, b3, b4, p3⟩ := rT _ d2 (cc.length - 1) p2 (by omega) (by omega) (by omega)
      obtain ⟨i3, hi3, hi4, hi5⟩ : ∃ i3 : Nat, ((i2 : Int) + 1 + r3) % cc.length = i3 ∧ i3 < cc.length ∧ i2 ≠ i3 := by
        obtain ⟨r3', rfl⟩ : ∃ x : Nat, r3 = x := ⟨r3.toNat, by omega⟩
        refine ⟨(i2 + 1 + r3') % cc.length, by simp, Nat.mod_lt _ (by omega), ?_⟩
        by_cases c2 : i2 + 1 + r3' < cc.length
        · rw [Nat.mod_eq_of_lt c2]; omega
        · have : (i2 + 1 + r3') % cc.length = i2 + 1 + r3' - cc.length := by
            rw [Nat.mod_eq_sub_mod (by omega), Nat.mod_eq_of_lt (by omega)]
          omega
      have cl0 : (0 : Int) < cc.length := by omega
      obtain ⟨g1, g2, g3, g4⟩ := longs_cut ho' hcm (i := i2) (j := i3) (by omega) hi4 hi5
      have at2 : atI (cc.map D.int) (i2 : Int) = some (.int cc[i2]) := atN D.int (by omega)
      have at3 : atI (cc.map D.int) (i3 : Int) = some (.int cc[i3]) := atN D.int hi4
      generalize cc[i2] = x at *
      generalize cc[i3] = y at *
      obtain ⟨a, b, hab, hmin, hmax, hxy⟩ : ∃ a b : Int, a < b ∧ (if y < x then y else x) = a ∧ (if x < y then y else x) = b ∧ ((a = x ∧ b = y) ∨ (a = y ∧ b = x)) := by
        by_cases c3 : x < y
        · exact ⟨x, y, c3, if_neg (by omega), if_pos c3, .inl ⟨rfl, rfl⟩⟩
        · exact ⟨y, x, by omega, if_pos (by omega), if_neg c3, .inr ⟨rfl, rfl⟩⟩
      have hcut : (rnds (o'.map (ledT (a, b)))).length = (rnds o').length + 1 := by
        rcases hxy with ⟨rfl, rfl⟩ | ⟨rfl, rfl⟩
        · exact rnds_cut ho' g1 g4 g3
        · have e : o'.map (ledT (a, b)) = o'.map (ledT (b, a)) := by
            congr 1; funext t; unfold ledT; dsimp only
            by_cases c4 : t = a <;> by_cases c5 : t = b <;> simp [c4, c5]
            all_goals (intro e; exact e.symm)
          rw [e]
          exact rnds_cut ho' g1 g4 g3
      have hpin : 1 ≤ a ∧ a < b ∧ b ≤ n := by rcases hxy with ⟨rfl, rfl⟩ | ⟨rfl, rfl⟩ <;> omega
      have ho2 : IsOrd n (o'.map (ledT (a, b))) := ledT_ord ho' (by dsimp only; omega)
      have rl2 := rnds_len_le ho2
      have q4 := rR n _ ho2 (by omega)
      have zo : o'.length ≤ sizeLine := line0 (by have := ho'.len; omega)
      have zr : row.length < sizeLine := line5 (by omega)
      have z2 : (2 : Nat) ≤ sizeLine := by rw [sizeLine_eq]; decide
      have zo2 : o'.length ≤ 1000 := by have := ho'.len; omega
      have cmp2 : ∀ (s0 s1 s2 s4 s5 s6 s7 : Slot), compL (compF cs (.nm 10) [10] .no (.b3 .get (.disp (.cons (.var 8) (.cons (.var 9) (.cons (.var 9) (.cons (.var 8) .nil))))) (.var 10) (.var 10))) 0 (o'.map fun x => (D.int x, Lv.full)) [s0, s1, s2, .none, s4, s5, s6, s7, .own (.int a) .full, .own (.int b) .full, .none] =
          .ok ((o'.map (ledT (a, b))).map fun x => (D.int x, Lv.full)) [s0, s1, s2, .none, s4, s5, s6, s7, .own (.int a) .full, .own (.int b) .full, .none] := by
        intro s0 s1 s2 s4 s5 s6 s7
        rw [List.map_map]
        refine compL_map (fun x => (D.int x, Lv.full)) ((fun x => (D.int x, Lv.full)) ∘ ledT (a, b)) _ o' 0 (by omega) fun x hx => ?_
        have sg := fun e => swap_get e hab x
        unfold compF
        simp -implicitDefEqProofs [sg]
      have cmp1' := fun s0 s1 s2 s3 s4 s6 s7 s8 s9 s10 => cmp1 _ s0 s1 s2 s3 s4 s6 s7 s8 s9 s10 ho2
      refine ⟨[Slot.own d' .full, .none, .own (.lst (row.map tup2)) .full, .own (.lst (o'.map D.int)) .full, .own (.lst ((longs o').map lD)) .full, s5, s6, s7, s8, s9, .none],
        [Slot.own d3 .full, .none, .own (.lst (((a, b) :: row).map tup2)) .full, .own (.lst ((o'.map (ledT (a, b))).map D.int)) .full, .own (.lst ((longs (o'.map (ledT (a, b)))).map lD)) .full, .none, .own (.int i2) .full, .own (.int i3) .full, .none, .none, .none], n - (rnds (o'.map (ledT (a, b)))).length, by omega, ?_, ?_, (a, b) :: row, o'.map (ledT (a, b)), d3, .none, .own (.int i2) .full, .own (.int i3) .full, .none, .none, rfl, ho2, ?_, ?_, ?_, ?_, rfl⟩
      · unfold whlT
        simp -implicitDefEqProofs [hl0]
      · have iml := immL_lD c
        have cl00 : 0 < cc.length := by omega
        generalize o'.map (ledT (a, b)) = o2 at *
        generalize longs o2 = lo2 at *
        generalize longs o' = lo at *
        unfold whlF lrB
        unfold tupI at q4
        rw [lstL_eq] at q4
        simp -implicitDefEqProofs [iT, q1, hat, q2, q3, hi3, cl0, at2, at3, hmin, hmax, zo, cmp2, Function.comp_def, zr, z2, iR, q4, cmp1', iml, cl00]
        rfl
      · intro p hp
        rcases List.mem_cons.mp hp with rfl | hp
        · exact hpin
        · exact hrow p hp
      · intro t ht
        rw [nth1_map ho'.len ht]
        show follow row (ledT (a, b) (ledT (a, b) (nth1 o' t))) = _
        rw [led_inv]
        exact hf t ht
      · simp; omega
      · exact p3.mono (by simp; omega)
  obtain ⟨e', h1, row, o', d', s4, s5, s6, s7, s8, s9, rfl, hl, ho', hrow, hf, hr, hd'⟩ := kw [Slot.own d .full, .none, .own (.lst (([] : List (Int × Int)).map tup2)) .full, .own (.lst (o.map D.int)) .full, .own (.lst ((longs o).map lD)) .full, .none, .none, .none, .none, .none, .none]
    ⟨[], o, d, .none, .none, .none, .none, .none, rfl, ho, (fun p hp => by cases hp), fun t ht => rfl, by simp, by simpa using hd, rfl⟩
  have fx := short_fix ho' hl
  have r0 := rnds_plain ho' fx
  have rl := rnds_len_le ho'
  refine ⟨row, d', ?_, hrow, ?_, by omega, hd'.mono (by omega)⟩
  · have q4 := rR n o ho (by omega)
    have zo : o.length ≤ sizeLine := line0 (by have := ho.len; omega)
    have c1 := fun s0 s1 s2 s3 s4 s6 s7 s8 s9 s10 => cmp1 o s0 s1 s2 s3 s4 s6 s7 s8 s9 s10 ho
    unfold f__law_least_row lstP
    unfold tupI at *
    rw [lstL_eq] at q4
    unfold lrB at h1
    simp only [bl, List.map_nil] at h1
    simp -implicitDefEqProofs [zo, iR, q4, Function.comp_def, c1, h1]
  · rw [ledR_map]
    refine List.ext_getElem (by rw [List.length_map, upTo_len, ho.len]) fun i h1 h2 => ?_
    have hi : i < n := by rw [ho.len] at h2; exact h2
    have e1 : (C.upTo n)[i]'(by rw [upTo_len]; exact hi) = (i : Int) + 1 := by
      have := upTo_get n i hi
      rw [List.getElem?_eq_getElem (by rw [upTo_len]; exact hi)] at this
      exact Option.some.inj this
    rw [List.getElem_map, e1]
    have := hf ((i : Int) + 1) (by omega)
    rw [fx _ (by omega)] at this
    rw [this]
    unfold nth1
    rw [show ((i : Int) + 1 - 1).toNat = i by omega, List.getD_eq_getElem?_getD, List.getElem?_eq_getElem h2]
    rfl
end C
end VI
namespace VI
open PySem PySem.Spec PyProof.Rows L2
namespace K10
open C
def Asked (cs : CS) : Prop := cs.io "_law_asked" = [false, false] ∧ ∀ (n : Nat) (row : List (Int × Int)), RowOk n row → 1 ≤ n → n ≤ 100 → cs.run "_law_asked" [(.int n, .sh), (lstP row, .sh)] = .ret (.bl true) .full [.none, .none]
theorem asked_ok {fs : List Fn} (h : Has fs f__law_asked) {k : Nat} (hL : LawLedN (csOf fs k)) (hR : LawRounds (csOf fs k)) (hI : IsLeast (csOf fs k)) : Asked (csOf fs (k + 1)) := by
  refine ⟨h.io _, fun n row hr hn1 hn => ?_⟩
  rw [show ("_law_asked" : Str) = f__law_asked.name from rfl, h.run _ rfl (by decide)]
  generalize csOf fs k = cs at *
  obtain ⟨iL, rL⟩ := hL
  obtain ⟨iR, rR⟩ := hR
  obtain ⟨iI, rI⟩ := hI
  have x1 := rL n row (by omega) fun p hp => by have := hr p hp; omega
  rw [← ledR_map] at x1
  have ho := ledR_ord hr.in
  have x2 := rR n _ ho hn
  have x3 := rI n row hr.in hn1 hn
  have e : decide ((row.length : Int) = (n : Int) - (rnds (ledR n row)).length) = decide (row.length + (rnds (ledR n row)).length = n) := by
    congr 1
    exact propext ⟨fun z => by omega, fun z => by omega⟩
  generalize decide (row.length + (rnds (ledR n row)).length = n) = b at *
  have cb : cmpD .eq (.bl b) (.bl b) = some true := by cases b <;> rfl
  have tb : isTy .bool (.bl b) = some true := rfl
  have cr : cmpD .eq (.lst (row.map tup2)) (.lst (row.map tup2)) = some true := by
    have := DE_tup2.lst.cmpEq (by decide) row row
    simpa using this
  generalize ledR n row = o at *
  rw [lstL_eq] at x2
  unfold f__law_asked
  unfold tupI lstP at *
  simp -implicitDefEqProofs [iL, x1, iR, x2, iI, x3, cb, cr, e, tb]
def lP (r : List (Int × Int)) : D := .lst (r.map tup2)
theorem rowok_app {n : Nat} {a b : List (Int × Int)} (h : RowOk n a) (h2 : RowOk n b) : RowOk n (a ++ b) := fun p hp => by
  rcases List.mem_append.mp hp with hp | hp
  · exact h p hp
  · exact h2 p hp
theorem rowok_take {n : Nat} {a : List (Int × Int)} (h : RowOk n a) (k : Nat) : RowOk n (a.take k) := fun p hp => h p (List.mem_of_mem_take hp)
theorem rowok_drop {n : Nat} {a : List (Int × Int)} (h : RowOk n a) (k : Nat) : RowOk n (a.drop k) := fun p hp => h p (List.mem_of_mem_drop hp)
def Others (cs : CS) : Prop := cs.io "_law_others" = [true, false, false] ∧ ∀ (N : Nat) (d : D) (n : Nat) (row : List (Int × Int)), PurseOk N d → N < 5000 → RowOk n row → 1 ≤ n → n ≤ 100 → row.length ≤ 100 →
  ∃ (rows : List (List (Int × Int))) (d' : D), cs.run "_law_others" [(d, .full), (.int n, .sh), (lstP row, .sh)] = .ret (.lst (rows.map lP)) .full [.own d' .full, .none, .none] ∧ (∀ r ∈ rows, RowOk n r) ∧ rows.length ≤ 5 ∧ PurseOk (N + 1001) d'
theorem others_ok {fs : List Fn} (h : Has fs f__law_others) {k : Nat} (hT : Take (csOf fs k)) (hR : Row (csOf fs k)) : Others (csOf fs (k + 1)) := by
  refine ⟨h.io _, fun N d n row hd hN hr hn1 hn hl => ?_⟩
  rw [show ("_law_others" : Str) = f__law_others.name from rfl, h.run _ rfl (by decide)]
  generalize csOf fs k = cs at *
  obtain ⟨iT, rT⟩ := hT
  obtain ⟨iR, rR⟩ := hR
  obtain ⟨r1, d1, q1, a1, a2, p1⟩ := rT N d (row.length + 1) hd (by omega) (by omega) (by omega)
  obtain ⟨at_, rfl⟩ : ∃ at_ : Nat, r1 = at_ := ⟨r1.toNat, by omega⟩
  obtain ⟨more, d2, q2, m1, m2, p2⟩ := rR (N + 1) d1 n 1 p1 (by omega) (by omega) (by omega) (by omega)
  rw [show ((1 : Nat) : Int) = 1 from rfl] at q2
  have e0 : (at_ : Int) + 1 = ((at_ + 1 : Nat) : Int) := by omega
  have k1 : cutD (row.map tup2) none (some (at_ : Int)) = (row.take at_).map tup2 := by rw [cutD_map, cutD_to]
  have k2 : cutD (row.map tup2) (some (at_ : Int)) none = (row.drop at_).map tup2 := by rw [cutD_map, cutD_from]
  have k3 : cutD (row.map tup2) (some (at_ : Int)) (some ((at_ : Int) + 1)) = ((row.drop at_).take 1).map tup2 := by rw [cutD_map, e0, cutD_mid, show at_ + 1 - at_ = 1 by omega]
  have k4 : cutD (row.map tup2) (some ((at_ : Int) + 1)) none = (row.drop (at_ + 1)).map tup2 := by rw [cutD_map, e0, cutD_from]
  have im : ∀ r : List (Int × Int), immL (r.map tup2) = true := fun r => immL_map (fun p => rfl) r
  have tk := rowok_take hr at_
  have dr := rowok_drop hr at_
  have dr1 := rowok_drop hr (at_ + 1)
  have dt := rowok_take dr 1
  have l1 : (row.take at_).length ≤ 100 := by rw [List.length_take]; omega
  have l2 : (row.drop at_).length ≤ 100 := by rw [List.length_drop]; omega
  have l3 : (row.drop (at_ + 1)).length ≤ 100 := by rw [List.length_drop]; omega
  have l4 : ((row.drop at_).take 1).length ≤ 1 := by rw [List.length_take]; omega
  have hx : 0 < at_ → ∃ x, atI (row.map tup2) ((at_ : Int) - 1) = some (tup2 x) ∧ x ∈ row := fun hp => by
    refine ⟨row[at_ - 1]'(by omega), ?_, List.getElem_mem _⟩
    rw [show (at_ : Int) - 1 = ((at_ - 1 : Nat) : Int) by omega]
    exact atN tup2 (by omega)
  generalize row.take at_ = ta at *
  generalize (row.drop at_).take 1 = dd at *
  generalize row.drop at_ = td at *
  generalize row.drop (at_ + 1) = te at *
  have ln : ∀ m : Nat, m ≤ 400 → m ≤ sizeLine := fun m hm => line0 (by omega)
  have s1 := ln (ta.length + more.length) (by omega)
  have s2 := ln (ta.length + more.length + td.length) (by omega)
  have s3 := ln (ta.length + dd.length) (by omega)
  have s4 := ln (ta.length + dd.length + td.length) (by omega)
  have s5 := ln (ta.length + te.length) (by omega)
  have s6 := ln 3 (by omega)
  have s7 := ln 1 (by omega)
  have s8 := ln (ta.length + 1) (by omega)
  have s9 := ln (ta.length + 1 + td.length) (by omega)
  have s10 := ln (1 + row.length) (by omega)
  have s11 : 3 < sizeLine := line5 (by omega)
  have s12 : 4 < sizeLine := line5 (by omega)
  by_cases c : 0 < at_
  · obtain ⟨x, x1, x2⟩ := hx c
    have c' : (0 : Int) < at_ := by omega
    have xr : RowOk n [x] := fun p hp => by rw [List.mem_singleton.mp hp]; exact hr x x2
    refine ⟨[ta ++ more ++ td, ta ++ dd ++ td, ta ++ te, ta ++ [x] ++ td, [x] ++ row], d2, ?_, ?_, by simp, p2.mono (by omega)⟩
    · unfold f__law_others lP
      unfold lstP at *
      simp -implicitDefEqProofs [iT, q1, iR, q2, k1, k2, k3, k4, im, opLL, s1, s2, s3, s4, s5, s6, s7, s8, s9, s10, s11, s12, c', c, x1]
      done
    · intro r hr2
      simp only [List.mem_cons, List.not_mem_nil, or_false] at hr2
      rcases hr2 with rfl | rfl | rfl | rfl | rfl
      · exact rowok_app (rowok_app tk m1) dr
      · exact rowok_app (rowok_app tk dt) dr
      · exact rowok_app tk dr1
      · exact rowok_app (rowok_app tk xr) dr
      · exact rowok_app xr hr
  · have c' : ¬ (0 : Int) < at_ := by omega
    refine ⟨[ta ++ more ++ td, ta ++ dd ++ td, ta ++ te], d2, ?_, ?_, by simp, p2.mono (by omega)⟩
    · unfold f__law_others lP
      unfold lstP at *
      simp -implicitDefEqProofs [iT, q1, iR, q2, k1, k2, k3, k4, im, opLL, s1, s2, s3, s4, s5, s6, s7, s8, s9, s10, s11, s12, c', c]
      done
    · intro r hr2
      simp only [List.mem_cons, List.not_mem_nil, or_false] at hr2
      rcases hr2 with rfl | rfl | rfl
      · exact rowok_app (rowok_app tk m1) dr
      · exact rowok_app (rowok_app tk dt) dr
      · exact rowok_app tk dr1
theorem rng_turns (n : Nat) : ∃ m : Nat, (if 2 < (if (16 : Int) < n then (16 : Int) else n) then (if (16 : Int) < n then (16 : Int) else n) else 2) = m ∧ m ≤ 16 := by
  by_cases h : (16 : Int) < n
  · exact ⟨16, by simp [h], by omega⟩
  · rw [if_neg h]
    by_cases h2 : (2 : Int) < n
    · exact ⟨n, by rw [if_pos h2], by omega⟩
    · exact ⟨2, by rw [if_neg h2]; rfl, by omega⟩
theorem law_run (ns : List Int) : ∃ lv outs, runF fns 6 "law" [(.lst (ns.map .int), .sh)] = .ret (.bl true) lv outs := by
  refine ⟨.full, [.none], ?_⟩
  have hL : Has fns f_law := by unfold Has; kernel_rfl
  have hP := purse_ok (fs := fns) (by unfold Has; kernel_rfl) 4
  have hT := fun k => take_ok (fs := fns) (by unfold Has; kernel_rfl) k
  have hO := order_ok (fs := fns) (by unfold Has; kernel_rfl) (hT 3)
  have hR := fun k => rounds_ok (fs := fns) (k := k + 1) (by unfold Has; kernel_rfl) (roundFrom_ok (fs := fns) (by unfold Has; kernel_rfl) k)
  have hLd := fun k => led (fs := fns) (k := k + 1) (by unfold Has; kernel_rfl) (plain (fs := fns) (by unfold Has; kernel_rfl) k) (ledThing (fs := fns) (by unfold Has; kernel_rfl) k)
  have hIL := fun k => isLeast_ok (fs := fns) (k := k + 2) (by unfold Has; kernel_rfl) (hR k) (hLd k)
  have hLL := fun k => lawLedN1 (fs := fns) (by unfold Has; kernel_rfl) k
  have hLR := fun k => lawRounds_ok (fs := fns) (by unfold Has; kernel_rfl) k
  have hRw := fun k => row_ok (fs := fns) (k := k + 1) (by unfold Has; kernel_rfl) (hT k)
  have hA := asked_ok (fs := fns) (k := 4) (by unfold Has; kernel_rfl) (hLL 3) (hLR 3) (hIL 1)
  have hOt := others_ok (fs := fns) (k := 4) (by unfold Has; kernel_rfl) (hT 3) (hRw 2)
  have hPt := parts_ok (fs := fns) (k := 4) (by unfold Has; kernel_rfl) (joinedL_ok (fs := fns) (by unfold Has; kernel_rfl) 3)
  have hLs := leastRow_ok (fs := fns) (k := 4) (by unfold Has; kernel_rfl) (hT 3) (hLR 3)
  have hT4 := hT 4
  have hIL4 := hIL 2
  have hLR4 := hLR 4
  have hRw4 := hRw 3
  have e0 : ∀ as, runF fns 6 "law" as = (csOf fns 6).run f_law.name as := fun _ => rfl
  rw [e0, hL.run 5 rfl (by decide)]
  generalize csOf fns 5 = cs at hP hT4 hO hIL4 hLR4 hRw4 hA hOt hPt hLs
  obtain ⟨iP, rP⟩ := hP
  obtain ⟨iT, rT⟩ := hT4
  obtain ⟨iO, rO⟩ := hO
  obtain ⟨iIL, rIL⟩ := hIL4
  obtain ⟨iLR, rLR⟩ := hLR4
  obtain ⟨iRw, rRw⟩ := hRw4
  obtain ⟨iA, rA⟩ := hA
  obtain ⟨iOt, rOt⟩ := hOt
  obtain ⟨iPt, rPt⟩ := hPt
  obtain ⟨iLs, rLs⟩ := hLs
  obtain ⟨m, hm, hm2⟩ := rng_turns ns.length
  have hrg := range_to (m : Int) (by omega)
  unfold f_law
  simp -implicitDefEqProofs [hm, hrg]
  refine forL_end ((fun d => (d, Lv.full)) ∘ D.int) (fun done e => ∃ s1 s2 s3 s4 s5 s6 s7, e = [Slot.own (.lst (ns.map D.int)) .sh, s1, s2, s3, s4, s5, s6, s7, .none]) (rangeI 0 m 1) ⟨_, _, _, _, _, _, _, rfl⟩ ?hs ?hk
  case hk =>
    rintro e ⟨s1, s2, s3, s4, s5, s6, s7, rfl⟩
    simp -implicitDefEqProofs
  rintro done t rest e hd ⟨s1, s2, s3, s4, s5, s6, s7, rfl⟩
  obtain ⟨k, hk, rfl⟩ : ∃ k : Nat, k < m ∧ t = k := by
    have : t ∈ rangeI 0 m 1 := by rw [← hd]; simp
    simp only [rangeI, List.mem_map, List.mem_range] at this
    obtain ⟨k, hk, e⟩ := this
    exact ⟨k, hk, by omega⟩
  obtain ⟨d0, p0, q0⟩ := rP ns k (by omega)
  obtain ⟨r1, d1, q1, a1, a2, p1⟩ := rT 0 d0 12 p0 (by omega) (by decide) (by decide)
  obtain ⟨n, hn⟩ : ∃ n : Nat, 1 + r1 = n := ⟨(1 + r1).toNat, by omega⟩
  have n1 : 1 ≤ n := by omega
  have n2 : n ≤ 12 := by omega
  obtain ⟨o, d2, q2, ho, p2⟩ := rO 1 d1 n p1 (by omega) (by omega) (by omega)
  obtain ⟨row, d3, q3, hrow, hled, hlen, p3⟩ := rLs _ d2 n o p2 (by omega) ho n1 (by omega)
  obtain ⟨rows, d4, q4, hrows, hrl, p4⟩ := rOt _ d3 n row p3 (by omega) hrow n1 (by omega) (by omega)
  obtain ⟨ra, d5, q5, hra, _, p5⟩ := rRw _ d4 n 12 p4 (by omega) n1 (by omega) (by omega)
  obtain ⟨rb, d6, q6, hrb, _, p6⟩ := rRw _ d5 n 3 p5 (by omega) n1 (by omega) (by omega)
  rw [show ((12 : Nat) : Int) = 12 from rfl] at q5
  rw [show ((3 : Nat) : Int) = 3 from rfl] at q6
  have x1 := rIL n row hrow.in n1 (by omega)
  rw [hled, decide_eq_true hlen] at x1
  have x2 := rPt n row (by omega) fun p hp => by have := hrow p hp; omega
  have x3 := rLR n o ho (by omega)
  have hp := least_parts hrow (by rw [hled]; exact hlen)
  rw [hled] at hp
  rw [hp] at x2
  rw [lstL_eq] at x3
  have zr : (rnds o).length ≤ sizeLine := line0 (by have := rnds_len_le ho; omega)
  have cm : ∀ (s0 s1 s2 s3 s4 s5 s6 s7 : Slot), compL (compF cs (.nm 8) [8] .no (.b1 .sorted (.var 8))) 0 ((rnds o).map fun c => (lD c, Lv.full)) [s0, s1, s2, s3, s4, s5, s6, s7, .none] = .ok (((rnds o).map isort).map fun c => (lD c, Lv.full)) [s0, s1, s2, s3, s4, s5, s6, s7, .none] := by
    intro s0 s1 s2 s3 s4 s5 s6 s7
    rw [List.map_map]
    refine compL_map (fun c => (lD c, Lv.full)) ((fun c => (lD c, Lv.full)) ∘ isort) _ (rnds o) 0 (by omega) fun c hc => ?_
    have so := sortD_ints c
    unfold compF lD
    simp -implicitDefEqProofs [so]
  have so := sortD_lists ((rnds o).map isort)
  have cne : cmpD .ne (.lst ((lsort ((rnds o).map isort)).map lD)) (.lst ((lsort ((rnds o).map isort)).map lD)) = some false := by
    have := DE_lD.lst.cmpNe (by decide) (lsort ((rnds o).map isort)) (lsort ((rnds o).map isort))
    simpa using this
  have cnr : cmpD .ne (.lst (row.map tup2)) (.lst (row.map tup2)) = some false := by
    have := DE_tup2.lst.cmpNe (by decide) row row
    simpa using this
  generalize lsort ((rnds o).map isort) = pp at *
  generalize (rnds o).map isort = ro at *
  have key : ∀ (all : List (List (Int × Int))) (s1 s2 s4 s5 s6 s7 : Slot), (∀ r ∈ all, RowOk n r) → ∃ e', forL (forF cs (.nm 7) (bl [.ite (.not (.call "_law_asked" (.cons (.var 3) (.cons (.var 7) .nil)))) (bl [.ret (.bl false)]) (bl [])])) (all.map fun r => (lP r, Lv.full)) [Slot.own (.lst (ns.map D.int)) .sh, s1, s2, .own (.int n) .full, s4, s5, s6, s7, .none] = .nx e' ∧
      ∃ s7, e' = [Slot.own (.lst (ns.map D.int)) .sh, s1, s2, .own (.int n) .full, s4, s5, s6, s7, .none] := by
    intro all s1 s2 s4 s5 s6 s7 hall
    refine forL_inv (fun r => (lP r, Lv.full)) (fun done e => ∃ s7, e = [Slot.own (.lst (ns.map D.int)) .sh, s1, s2, .own (.int n) .full, s4, s5, s6, s7, .none]) all all [] _ (by simp) ⟨s7, rfl⟩ ?_
    rintro done r rest e hd ⟨s7, rfl⟩
    have x := rA n r (hall r (by rw [← hd]; simp)) n1 (by omega)
    rw [forF_K]
    unfold lP
    unfold lstP at x
    refine ⟨_, ?_, .own (.lst (r.map tup2)) .full, rfl⟩
    simp -implicitDefEqProofs [iA, x]
  have hall : ∀ r ∈ rows ++ [ra, rb], RowOk n r := fun r hr => by
    rcases List.mem_append.mp hr with hr | hr
    · exact hrows r hr
    · simp only [List.mem_cons, List.not_mem_nil, or_false] at hr
      rcases hr with rfl | rfl
      · exact hra
      · exact hrb
  have key := fun s1 s2 s4 s5 s6 s7 => key (rows ++ [ra, rb]) s1 s2 s4 s5 s6 s7 hall
  have ap : (rows ++ [ra, rb]).map (fun r => (lP r, Lv.full)) = rows.map (fun r => (lP r, Lv.full)) ++ [(.lst (ra.map tup2), Lv.full), (.lst (rb.map tup2), Lv.full)] := by simp [lP]
  rw [ap] at key
  simp only [bl] at key
  obtain ⟨e1, h1, s7', rfl⟩ := key (.own (.int k) .full) (.own d6 .full) (.own (.tup (o.map D.int)) .full) (.own (.lst (row.map tup2)) .full) (.own (.lst (row.map tup2)) .full) s7
  have z2 : (2 : Nat) ≤ sizeLine := by rw [sizeLine_eq]; decide
  have zz : rows.length + 2 ≤ sizeLine := line0 (by omega)
  have z3 : row.length < sizeLine := line5 (by omega)
  have z4 : row.length + 1 < sizeLine := line5 (by omega)
  rw [forF_K]
  unfold tupI lstP at *
  by_cases c : 1 < n
  · have c' : (1 : Int) < n := by omega
    have rin : RowIn n (row ++ [(1, (n : Int)), (1, (n : Int))]) := fun p hp => by
      rcases List.mem_append.mp hp with hp | hp
      · exact hrow.in p hp
      · simp at hp; subst hp; dsimp only; omega
    have x4 := rIL n _ rin n1 (by omega)
    have e2 : ledR n (row ++ [(1, (n : Int)), (1, (n : Int))]) = o := by
      rw [show row ++ [(1, (n : Int)), (1, (n : Int))] = (row ++ [(1, (n : Int))]) ++ [(1, (n : Int))] by simp, ledR_snoc, ledR_snoc, map_led_twice, hled]
    rw [e2] at x4
    have e3 : decide ((row ++ [(1, (n : Int)), (1, (n : Int))]).length + (rnds o).length = n) = false := decide_eq_false (by simp; omega)
    rw [e3] at x4
    have e4 : (row ++ [(1, (n : Int)), (1, (n : Int))]).map tup2 = row.map tup2 ++ [D.tup [D.int 1, D.int n], D.tup [D.int 1, D.int n]] := by simp [tup2]
    rw [e4] at x4
    simp -implicitDefEqProofs [iP, iT, iO, iLs, iIL, iPt, iLR, iOt, iRw, q0, q1, hn, q2, q3, x1, x2, x3, cm, so, cne, cnr, Function.comp_def, q4, q5, q6, opLL, h1, c, c', z2, zz, z3, z4, x4]
    done
  · have c' : ¬ (1 : Int) < n := by omega
    simp -implicitDefEqProofs [iP, iT, iO, iLs, iIL, iPt, iLR, iOt, iRw, q0, q1, hn, q2, q3, x1, x2, x3, cm, so, cne, cnr, Function.comp_def, q4, q5, q6, opLL, h1, c, c', z2, zz]
    done
theorem holds : PySem.Challenge.rw_swapstars_k10_least_rows_known.Holds := lawEnd 5 ⟨rfl, by decide, by decide⟩ fun ns _ => ⟨_, _, (law_run ns).choose_spec.choose_spec⟩
end K10
end VI
open PySem PySem.W PyProof.Rows
set_option maxRecDepth 100000 in
set_option maxHeartbeats 8000000 in
theorem PySem.Challenge.cw_swapstars_k10_least_rows_known_holds : PySem.Challenge.rw_swapstars_k10_least_rows_known.Holds := by
  exact VI.K10.holds
