import PyProof.Rows.All
import Wide.All
import OpenK.AllK
import Wide.FinOn
import PySem.Challenge.RW_ui0501_01
set_option Elab.async false
set_option maxRecDepth 100000
set_option linter.unusedVariables false
set_option linter.unusedSimpArgs false
namespace Mine
open PySem PySem.W PyProof.Rows PySem.Calls

/-- pure values -/
inductive PV where
  | none
  | bool (b : Bool)
  | int (i : Int)
  | str (s : List Nat)
  | tup (l : List PV)
  | lst (l : List PV)
  | rcd (C : Nat) (ns : List Nat) (vs : List PV)
  | top (v : Value)

/-- values: pure, a tracked list or dict, an object of a class whose tracked dict stands at i -/
inductive AV where
  | p (v : PV)
  | obj (i : Nat)
  | ins (C : Nat) (i : Nat)

/-- tracked objects -/
inductive AO where
  | lst (l : List AV)
  | fld (l : List (Nat × AV))
  | dct (l : List (List Nat × AV))

abbrev Led := List (Addr × Obj)

inductive All2 {α β : Type} (R : α → β → Prop) : List α → List β → Prop where
  | nil : All2 R [] []
  | cons {a b l r} : R a b → All2 R l r → All2 R (a :: l) (b :: r)

namespace All2
variable {α β : Type} {R S : α → β → Prop}
theorem length {l : List α} {r : List β} (h : All2 R l r) : l.length = r.length := by
  induction h with
  | nil => rfl
  | cons _ _ ih => simp [ih]
theorem mono {l : List α} {r : List β} (h : All2 R l r) (k : ∀ a b, R a b → S a b) : All2 S l r := by
  induction h with
  | nil => exact .nil
  | cons h _ ih => exact .cons (k _ _ h) ih
theorem get {l : List α} {r : List β} (h : All2 R l r) : ∀ {i : Nat} {a : α}, l[i]? = some a → ∃ b, r[i]? = some b ∧ R a b := by
  induction h with
  | nil => intro i a e; cases e
  | cons h _ ih =>
    intro i a e
    cases i with
    | zero => cases e; exact ⟨_, rfl, h⟩
    | succ i => exact ih e
theorem append {l l' : List α} {r r' : List β} (h : All2 R l r) (k : All2 R l' r') : All2 R (l ++ l') (r ++ r') := by
  induction h with
  | nil => exact k
  | cons h _ ih => exact .cons h ih
theorem set {l : List α} {r : List β} (h : All2 R l r) {a : α} {b : β} (k : R a b) : ∀ i : Nat, All2 R (l.set i a) (r.set i b) := by
  induction h with
  | nil => intro i; exact .nil
  | cons h h' ih =>
    intro i
    cases i with
    | zero => exact .cons k h'
    | succ i => exact .cons h (ih i)
theorem take {l : List α} {r : List β} (h : All2 R l r) : ∀ n : Nat, All2 R (l.take n) (r.take n) := by
  induction h with
  | nil => intro n; simp; exact .nil
  | cons h h' ih =>
    intro n
    cases n with
    | zero => exact .nil
    | succ n => exact .cons h (ih n)
theorem drop {l : List α} {r : List β} (h : All2 R l r) : ∀ n : Nat, All2 R (l.drop n) (r.drop n) := by
  induction h with
  | nil => intro n; simp; exact .nil
  | cons h h' ih =>
    intro n
    cases n with
    | zero => exact .cons h h'
    | succ n => exact ih n
end All2

def At (hb : Heap) (frz : Led) (a : Addr) (o : Obj) : Prop := hb.get? a = some o ∨ (a, o) ∈ frz
theorem At.mono {hb : Heap} {frz frz' : Led} (k : ∀ q ∈ frz, q ∈ frz') {a : Addr} {o : Obj} (h : At hb frz a o) : At hb frz' a o := h.imp id (k _)

mutual
inductive PRel (an : List Str) (hb : Heap) (frz : Led) : PV → Value → Prop where
  | none : PRel an hb frz .none .none
  | bool (b : Bool) : PRel an hb frz (.bool b) (.bool b)
  | int (i : Int) (t : Tok) : PRel an hb frz (.int i) (.int i t)
  | str (l : List Nat) (t : Tok) : PRel an hb frz (.str l) (.str ⟨l.toArray⟩ t)
  | tup {l : List PV} {vs : List Value} {a : Addr} {o : Obj} {n : Nat} : At hb frz a o → o.cls = .type "tuple" → o.data = .seq vs.toArray n → PRels an hb frz l vs → PRel an hb frz (.tup l) (.ref a)
  | lst {l : List PV} {vs : List Value} {a : Addr} {o : Obj} {n : Nat} : At hb frz a o → o.cls = .type "list" → o.data = .seq vs.toArray n → PRels an hb frz l vs → PRel an hb frz (.lst l) (.ref a)
  | rcd {C : Addr} {ns : List Nat} {vs : List PV} {x dx : Addr} {es : List DictEntry} {n : Nat} : At hb frz x (instObj C dx) → At hb frz dx (dictOf es n) → FRel an hb frz ns vs es → PRel an hb frz (.rcd C ns vs) (.ref x)
  | top (v : Value) : PRel an hb frz (.top v) v
inductive PRels (an : List Str) (hb : Heap) (frz : Led) : List PV → List Value → Prop where
  | nil : PRels an hb frz [] []
  | cons {v : PV} {x : Value} {l : List PV} {r : List Value} : PRel an hb frz v x → PRels an hb frz l r → PRels an hb frz (v :: l) (x :: r)
inductive FRel (an : List Str) (hb : Heap) (frz : Led) : List Nat → List PV → List DictEntry → Prop where
  | nil : FRel an hb frz [] [] []
  | cons {i : Nat} {v : PV} {ns : List Nat} {vs : List PV} {e : DictEntry} {es : List DictEntry} {x : Str} {t : Tok} : an[i]? = some x → e.key = .str x t → PRel an hb frz v e.val → FRel an hb frz ns vs es → FRel an hb frz (i :: ns) (v :: vs) (e :: es)
end

mutual
theorem PRel.mono {an : List Str} {hb : Heap} {frz frz' : Led} (k : ∀ q ∈ frz, q ∈ frz') : ∀ {v : PV} {x : Value}, PRel an hb frz v x → PRel an hb frz' v x
  | _, _, .none => .none
  | _, _, .bool b => .bool b
  | _, _, .int i t => .int i t
  | _, _, .str l t => .str l t
  | _, _, .tup a b c d => .tup (a.mono k) b c (PRels.mono k d)
  | _, _, .lst a b c d => .lst (a.mono k) b c (PRels.mono k d)
  | _, _, .rcd a b c => .rcd (a.mono k) (b.mono k) (FRel.mono k c)
  | _, _, .top v => .top v
theorem PRels.mono {an : List Str} {hb : Heap} {frz frz' : Led} (k : ∀ q ∈ frz, q ∈ frz') : ∀ {v : List PV} {x : List Value}, PRels an hb frz v x → PRels an hb frz' v x
  | _, _, .nil => .nil
  | _, _, .cons a b => .cons (PRel.mono k a) (PRels.mono k b)
theorem FRel.mono {an : List Str} {hb : Heap} {frz frz' : Led} (k : ∀ q ∈ frz, q ∈ frz') : ∀ {ns : List Nat} {v : List PV} {x : List DictEntry}, FRel an hb frz ns v x → FRel an hb frz' ns v x
  | _, _, _, .nil => .nil
  | _, _, _, .cons a b c d => .cons a b (PRel.mono k c) (FRel.mono k d)
end

theorem PRels.all2 {an : List Str} {hb : Heap} {frz : Led} : ∀ {l : List PV} {r : List Value}, PRels an hb frz l r → All2 (PRel an hb frz) l r
  | _, _, .nil => .nil
  | _, _, .cons a b => .cons a (PRels.all2 b)
theorem PRels.of {an : List Str} {hb : Heap} {frz : Led} {l : List PV} {r : List Value} (h : All2 (PRel an hb frz) l r) : PRels an hb frz l r := by
  induction h with
  | nil => exact .nil
  | cons a _ ih => exact .cons a ih

/-- values over the addresses of the tracked objects -/
inductive VRel (an : List Str) (hb : Heap) (ι : List Addr) (frz : Led) : AV → Value → Prop where
  | p {v : PV} {x : Value} : PRel an hb frz v x → VRel an hb ι frz (.p v) x
  | obj {i : Nat} {a : Addr} : ι[i]? = some a → VRel an hb ι frz (.obj i) (.ref a)
  | ins {C i : Nat} {x dx : Addr} : ι[i]? = some dx → (x, instObj C dx) ∈ frz → VRel an hb ι frz (.ins C i) (.ref x)

theorem prefix_get {ι ι' : List Addr} (h : ι <+: ι') {i : Nat} {a : Addr} (e : ι[i]? = some a) : ι'[i]? = some a := by
  obtain ⟨r, rfl⟩ := h
  rw [List.getElem?_append_left (List.getElem?_eq_some_iff.mp e).1]; exact e
theorem VRel.mono {an : List Str} {hb : Heap} {ι ι' : List Addr} {frz frz' : Led} (hι : ι <+: ι') (k : ∀ q ∈ frz, q ∈ frz') {v : AV} {x : Value} (h : VRel an hb ι frz v x) : VRel an hb ι' frz' v x := by
  cases h with
  | p h => exact .p (h.mono k)
  | obj e => exact .obj (prefix_get hι e)
  | ins e m => exact .ins (prefix_get hι e) (k _ m)

inductive ORel (an : List Str) (P : Params) (hb : Heap) (ι : List Addr) (frz : Led) : AO → Obj → Prop where
  | lst {l : List AV} {vs : List Value} {n : Nat} : All2 (VRel an hb ι frz) l vs → ORel an P hb ι frz (.lst l) (listOf vs.toArray n)
  | fld {l : List (Nat × AV)} {es : List DictEntry} {n : Nat} : All2 (fun (q : Nat × AV) (e : DictEntry) => (∃ x t, an[q.1]? = some x ∧ e.key = .str x t) ∧ VRel an hb ι frz q.2 e.val) l es → ORel an P hb ι frz (.fld l) (dictOf es n)
  | dct {l : List (List Nat × AV)} {es : List DictEntry} {n : Nat} : All2 (fun (q : List Nat × AV) (e : DictEntry) => (∃ t, e.key = .str ⟨q.1.toArray⟩ t ∧ e.hash = PyData.keyHash P ⟨q.1.toArray⟩) ∧ VRel an hb ι frz q.2 e.val) l es → ORel an P hb ι frz (.dct l) (dictOf es n)

theorem ORel.mono {an : List Str} {P : Params} {hb : Heap} {ι ι' : List Addr} {frz frz' : Led} (hι : ι <+: ι') (k : ∀ q ∈ frz, q ∈ frz') {v : AO} {x : Obj} (h : ORel an P hb ι frz v x) : ORel an P hb ι' frz' v x := by
  cases h with
  | lst h => exact .lst (h.mono fun _ _ => VRel.mono hι k)
  | fld h => exact .fld (h.mono fun _ _ q => ⟨q.1, q.2.mono hι k⟩)
  | dct h => exact .dct (h.mono fun _ _ q => ⟨q.1, q.2.mono hι k⟩)

/-- the height that a value's reference wants -/
def AV.bd : AV → Nat
  | .p _ => 0
  | .obj i => i + 1
  | .ins _ i => i + 1
def bds : List AV → Nat
  | [] => 0
  | v :: r => Nat.max v.bd (bds r)
def AO.bd : AO → Nat
  | .lst l => bds l
  | .fld l => bds (l.map (·.2))
  | .dct l => bds (l.map (·.2))

structure St where
  hp : List AO
  hw : Nat
  fb : Nat
  lo : List (Option AV)

def obds : List (Option AV) → Nat
  | [] => 0
  | none :: r => obds r
  | some v :: r => Nat.max v.bd (obds r)

end Mine
namespace Mine
open PySem PySem.W PyProof.Rows PySem.Calls

structure Exn where
  C : Nat
  ns : List Nat
  vs : List PV

inductive Out (α : Type) where
  | ok (a : α) (σ : St)
  | exc (x : Exn) (σ : St)
  | stuck

def Out.bind {α β : Type} (o : Out α) (k : α → St → Out β) : Out β := match o with
  | .ok a σ => k a σ
  | .exc x σ => .exc x σ
  | .stuck => .stuck

inductive Bop where | add | sub | mul | fdiv | mod
inductive Cop where | eq | ne | lt | le | gt | ge | isin | notin | is | isnot
inductive BF where | len | list | flist | tuple | str | int | max
inductive BM where | append | pop | extend | join | startswith | split | rstrip | count | rfind | find

inductive Ex where
  | cst (v : PV)
  | loc (i : Nat)
  | bin (o : Bop) (a b : Ex)
  | neg (a : Ex)
  | not (a : Ex)
  | and (a b : Ex)
  | or (a b : Ex)
  | cmp (o : Cop) (a b : Ex)
  | ite (c a b : Ex)
  | tup (l : List Ex)
  | lst (l : List Ex)
  | att (e : Ex) (n : Nat)
  | idx (e i : Ex)
  | sli (e : Ex) (lo hi : Option Ex)
  | callf (f : Nat) (l : List Ex)
  | new (C : Nat) (l : List Ex)
  | bf (b : BF) (l : List Ex)
  | meth (e : Ex) (n : Nat) (b : Option BM) (l : List Ex)

inductive Sx where
  | expr (e : Ex)
  | asg (i : Nat) (e : Ex)
  | asgA (o : Ex) (n : Nat) (e : Ex)
  | asgI (o i e : Ex)
  | ite (c : Ex) (a b : List Sx)
  | whl (c : Ex) (b : List Sx)
  | forL (i : Nat) (e : Ex) (b : List Sx)
  | forR (i : Nat) (e : Ex) (b : List Sx)
  | forV (i : Nat) (e : Ex) (b : List Sx)
  | ret (e : Ex)
  | ret0
  | pass
  | brk
  | cont

inductive Fl where
  | next | brk | cont
  | ret (v : AV)

structure Fd where
  npar : Nat
  nloc : Nat
  body : List Sx

structure Prg where
  fns : List (Nat × Fd)
  meths : List (Nat × List (Nat × Nat))
  inits : List (Nat × Nat)
  frozen : List Nat

def lookN {α : Type} (k : Nat) : List (Nat × α) → Option α
  | [] => none
  | q :: r => match Nat.beq q.1 k with
    | true => some q.2
    | false => lookN k r

def pOf : AV → Option PV
  | .p x => some x
  | _ => none

def eqL : List Nat → List Nat → Bool
  | [], [] => true
  | a :: r, b :: t => match Nat.beq a b with
    | true => eqL r t
    | false => false
  | _, _ => false

/-- == of pure values; none: not served -/
def peqs (f : PV → PV → Option Bool) : List PV → List PV → Option Bool
  | [], [] => some true
  | a :: r, b :: t => match f a b with
    | none => none
    | some x => (match peqs f r t with | some y => some (x && y) | none => none)
  | _, _ => some false
def peq : Nat → PV → PV → Option Bool
  | 0, _, _ => none
  | n + 1, x, y => match x, y with
    | .none, .none => some true
    | .none, .bool _ => some false
    | .none, .int _ => some false
    | .none, .str _ => some false
    | .none, .tup _ => some false
    | .none, .lst _ => some false
    | .bool a, .bool b => some (a == b)
    | .bool _, .none => some false
    | .bool _, .str _ => some false
    | .int a, .int b => some (a == b)
    | .int _, .none => some false
    | .int _, .str _ => some false
    | .str a, .str b => some (eqL a b)
    | .str _, .none => some false
    | .str _, .int _ => some false
    | .str _, .bool _ => some false
    | .str _, .tup _ => some false
    | .tup _, .none => some false
    | .tup _, .str _ => some false
    | .lst _, .none => some false
    | .tup a, .tup b => peqs (peq n) a b
    | .lst a, .lst b => (match Nat.beq a.length b.length with | true => peqs (peq n) a b | false => some false)
    | _, _ => none

def smallI (i : Int) : Bool := decide (-1000000000000 < i) && decide (i < 1000000000000)
def okLen (n : Nat) : Bool := Nat.blt n 1000000

def itemsOf (σ : St) : AV → Option (List AV)
  | .p (.tup l) => some (l.map .p)
  | .p (.lst l) => some (l.map .p)
  | .obj i => match σ.hp[i]? with
    | some (.lst l) => some l
    | _ => none
  | _ => none

def newLst (l : List AV) (σ : St) : Out AV := match okLen l.length with
  | true => .ok (.obj σ.hp.length) { σ with hp := σ.hp ++ [.lst l] }
  | false => .stuck

def lstOf (σ : St) : AV → Option (List AV)
  | .p (.lst l) => some (l.map .p)
  | .obj i => match σ.hp[i]? with
    | some (.lst l) => some l
    | _ => none
  | _ => none

def rep {α : Type} : Nat → List α → List α
  | 0, _ => []
  | n + 1, l => l ++ rep n l

def badd (x y : AV) (σ : St) : Out AV := match x, y with
  | .p (.int a), .p (.int b) => .ok (.p (.int (a + b))) σ
  | .p (.str a), .p (.str b) => (match okLen (a.length + b.length) with | true => .ok (.p (.str (a ++ b))) σ | false => .stuck)
  | x, y => (match lstOf σ x, lstOf σ y with
    | some a, some b => newLst (a ++ b) σ
    | _, _ => .stuck)
def bsub (x y : AV) (σ : St) : Out AV := match x, y with
  | .p (.int a), .p (.int b) => .ok (.p (.int (a - b))) σ
  | _, _ => .stuck
def bmul (x y : AV) (σ : St) : Out AV := match x, y with
  | .p (.int a), .p (.int b) => (match smallI a && smallI b with | true => .ok (.p (.int (a * b))) σ | false => .stuck)
  | .p (.str a), .p (.int n) => (match smallI n && okLen n.toNat && okLen (a.length * n.toNat) with | true => .ok (.p (.str (rep n.toNat a))) σ | false => .stuck)
  | .obj i, .p (.int n) => (match σ.hp[i]? with
    | some (.lst l) => (match smallI n && okLen (l.length * n.toNat) with | true => newLst (rep n.toNat l) σ | false => .stuck)
    | _ => .stuck)
  | _, _ => .stuck
def bfdiv (x y : AV) (σ : St) : Out AV := match x, y with
  | .p (.int a), .p (.int b) => (match decide (0 < b) && decide (b < 1000000000) with | true => .ok (.p (.int (Int.fdiv a b))) σ | false => .stuck)
  | _, _ => .stuck
def bmod (x y : AV) (σ : St) : Out AV := match x, y with
  | .p (.int a), .p (.int b) => (match decide (b = 0) with | true => .stuck | false => .ok (.p (.int (Int.fmod a b))) σ)
  | _, _ => .stuck
def binop : Bop → AV → AV → St → Out AV
  | .add => badd
  | .sub => bsub
  | .mul => bmul
  | .fdiv => bfdiv
  | .mod => bmod

def snapL (f : AV → Option PV) : List AV → Option (List PV)
  | [] => some []
  | v :: r => match f v with
    | none => none
    | some x => (match snapL f r with | some l => some (x :: l) | none => none)
def snap (σ : St) : Nat → AV → Option PV
  | _, .p v => some v
  | n + 1, .obj i => (match σ.hp[i]? with
    | some (.lst l) => (match snapL (snap σ n) l with | some l => some (.lst l) | none => none)
    | _ => none)
  | _, _ => none

def ceq (a b : AV) (σ : St) : Option Bool := match snap σ 6 a, snap σ 6 b with
  | some x, some y => peq 12 x y
  | _, _ => none

def anyEq (f : PV → Option Bool) : List PV → Option Bool
  | [] => some false
  | a :: r => match f a with
    | none => none
    | some x => (match anyEq f r with | some y => some (x || y) | none => none)

/-- x within y, as texts -/
def preL : List Nat → List Nat → Bool
  | [], _ => true
  | a :: r, b :: t => (match Nat.beq a b with | true => preL r t | false => false)
  | _ :: _, [] => false
def subL (x : List Nat) : List Nat → Bool
  | [] => preL x []
  | b :: t => preL x (b :: t) || subL x t

def cin (a b : AV) (σ : St) : Option Bool := match a, b with
  | .p (.str x), .p (.str y) => some (subL x y)
  | a, b => (match snap σ 6 a, snap σ 6 b with
    | some x, some (.lst l) => anyEq (fun v => peq 12 v x) l
    | some x, some (.tup l) => anyEq (fun v => peq 12 v x) l
    | _, _ => none)

def cis (a b : AV) : Option Bool := match a, b with
  | .p .none, .p .none => some true
  | .p (.bool _), .p .none => some false
  | .p (.int _), .p .none => some false
  | .p (.str _), .p .none => some false
  | .p (.tup _), .p .none => some false
  | .p (.lst _), .p .none => some false
  | .p (.rcd _ _ _), .p .none => some false
  | .obj _, .p .none => some false
  | .ins _ _, .p .none => some false
  | _, _ => none

def cmpI : Cop → Int → Int → Option Bool
  | .lt, a, b => some (decide (a < b))
  | .le, a, b => some (decide (a ≤ b))
  | .gt, a, b => some (decide (a > b))
  | .ge, a, b => some (decide (a ≥ b))
  | _, _, _ => none

def cmpop (o : Cop) (a b : AV) (σ : St) : Option Bool := match o with
  | .eq => ceq a b σ
  | .ne => (match ceq a b σ with | some r => some (!r) | none => none)
  | .isin => cin a b σ
  | .notin => (match cin a b σ with | some r => some (!r) | none => none)
  | .is => cis a b
  | .isnot => (match cis a b with | some r => some (!r) | none => none)
  | o => (match a, b with
    | .p (.int a), .p (.int b) => cmpI o a b
    | _, _ => none)

def truth (v : AV) (σ : St) : Option Bool := match v with
  | .p .none => some false
  | .p (.bool b) => some b
  | .p (.int i) => some (i != 0)
  | .p (.str l) => (match okLen l.length with | true => some (!l.isEmpty) | false => none)
  | .obj i => (match σ.hp[i]? with | some (.lst l) => (match okLen l.length with | true => some (!l.isEmpty) | false => none) | _ => none)
  | _ => none

def okInt (k : Int) : Bool := decide (0 ≤ k) && decide (k < 1000000)
def idxOf (σ : St) (x y : AV) : Option AV := match y with
  | .p (.int k) => (match okInt k with
    | true => (match x with
      | .p (.str l) => (match l[k.toNat]? with | some c => some (.p (.str [c])) | none => none)
      | x => (match itemsOf σ x with | some l => l[k.toNat]? | none => none))
    | false => none)
  | _ => none

def trim (σ : St) : St := { σ with hp := σ.hp.take (Nat.max σ.fb (Nat.max σ.hw (obds σ.lo))) }

def retSt (n : Nat) (fb : Nat) (lo : List (Option AV)) (v : AV) (σ : St) : Out AV := match Nat.ble σ.hw n with
  | false => .ok v ⟨σ.hp, σ.hw, fb, lo⟩
  | true => match v with
    | .p x => .ok (.p x) ⟨σ.hp.take n, σ.hw, fb, lo⟩
    | .obj j => (match Nat.blt j n with
      | true => .ok (.obj j) ⟨σ.hp.take n, σ.hw, fb, lo⟩
      | false => match σ.hp[j]? with
        | some o => (match Nat.ble o.bd n with
          | true => .ok (.obj n) ⟨σ.hp.take n ++ [o], σ.hw, fb, lo⟩
          | false => .ok (.obj j) ⟨σ.hp, σ.hw, fb, lo⟩)
        | none => .stuck)
    | .ins C j => (match Nat.blt j n with
      | true => .ok (.ins C j) ⟨σ.hp.take n, σ.hw, fb, lo⟩
      | false => .ok (.ins C j) ⟨σ.hp, σ.hw, fb, lo⟩)

structure Ev where
  ex : Ex → St → Out AV
  exs : List Ex → St → Out (List AV)
  tst : Ex → St → Out Bool
  sts : List Sx → St → Out Fl
  call : Nat → List AV → St → Out AV
  whl : Ex → List Sx → St → Out Fl
  forL : Nat → AV → Nat → List Sx → St → Out Fl
  forR : Nat → Nat → Nat → List Sx → St → Out Fl

def Ev.none : Ev := ⟨fun _ _ => .stuck, fun _ _ => .stuck, fun _ _ => .stuck, fun _ _ => .stuck, fun _ _ _ => .stuck, fun _ _ _ => .stuck, fun _ _ _ _ _ => .stuck, fun _ _ _ _ _ => .stuck⟩

def flVal : Fl → AV
  | .ret v => v
  | _ => .p .none

def callStep (P : Prg) (ih : Nat → Ev) : Nat → Nat → List AV → St → Out AV
  | 0, _, _, _ => .stuck
  | d + 1, f, args, σ => match lookN f P.fns with
    | none => .stuck
    | some fd => match Nat.beq args.length fd.npar with
      | false => .stuck
      | true => match (ih d).sts fd.body ⟨σ.hp, σ.hw, σ.hp.length, args.map some ++ List.replicate (fd.nloc - fd.npar) none⟩ with
        | .ok fl σ' => retSt σ.hp.length σ.fb σ.lo (flVal fl) σ'
        | .exc x σ' => .exc x ⟨σ'.hp.take (Nat.max σ.hp.length σ'.hw), σ'.hw, σ.fb, σ.lo⟩
        | .stuck => .stuck

def bfun (b : BF) (args : List AV) (σ : St) : Out AV := match b, args with
  | .len, [.p (.str l)] => (match okLen l.length with | true => .ok (.p (.int l.length)) σ | false => .stuck)
  | .len, [v] => (match itemsOf σ v with | some l => (match okLen l.length with | true => .ok (.p (.int l.length)) σ | false => .stuck) | none => .stuck)
  | .tuple, [v] => (match lstOf σ v with | some l => (match l.mapM pOf, okLen l.length with | some ps, true => .ok (.p (.tup ps)) σ | _, _ => .stuck) | none => .stuck)
  | _, _ => .stuck

def BM.onList : BM → Bool
  | .append => true
  | .pop => true
  | .extend => true
  | _ => false
def recvOk (b : BM) (v : AV) (σ : St) : Bool := match v with
  | .obj i => (match σ.hp[i]? with | some (.lst _) => b.onList | _ => false)
  | .p (.str _) => !b.onList
  | _ => false

def bmeth (b : BM) (v : AV) (args : List AV) (σ : St) : Out AV := match b, v, args with
  | .append, .obj i, [x] => (match σ.hp[i]? with
    | some (.lst l) => (match okLen l.length with
      | true => .ok (.p .none) { σ with hp := σ.hp.set i (.lst (l ++ [x])), hw := (match Nat.ble x.bd (Nat.max i σ.hw) with | true => σ.hw | false => x.bd) }
      | false => .stuck)
    | _ => .stuck)
  | .count, .p (.str x), [.p (.str y)] => .ok (.p (.int (Txt.count ⟨x.toArray⟩ ⟨y.toArray⟩))) σ
  | .rfind, .p (.str x), [.p (.str y)] => .ok (.p (.int (Txt.rfind ⟨x.toArray⟩ ⟨y.toArray⟩))) σ
  | .find, .p (.str x), [.p (.str y)] => .ok (.p (.int (Txt.find ⟨x.toArray⟩ ⟨y.toArray⟩))) σ
  | .startswith, .p (.str x), [.p (.str y)] => .ok (.p (.bool (Txt.startswith ⟨x.toArray⟩ ⟨y.toArray⟩))) σ
  | .rstrip, .p (.str x), [.p (.str y)] => (match okLen x.length with | true => .ok (.p (.str (Txt.rstripChars ⟨x.toArray⟩ ⟨y.toArray⟩).cps.toList)) σ | false => .stuck)
  | _, _, _ => .stuck

def sliL {α : Type} (lo hi : Option Int) (l : List α) : List α := (l.drop (lo.elim 0 (clipAt l.length))).take (hi.elim l.length (clipAt l.length) - lo.elim 0 (clipAt l.length))
def partOf : Option AV → Option (Option Int)
  | none => some none
  | some (.p (.int i)) => some (some i)
  | _ => none
def sliV (x : AV) (lo hi : Option AV) (σ : St) : Out AV := match partOf lo, partOf hi with
  | some a, some b => (match x with
    | .p (.str l) => (match okLen l.length with | true => .ok (.p (.str (sliL a b l))) σ | false => .stuck)
    | x => (match lstOf σ x with
      | some l => (match okLen l.length with | true => newLst (sliL a b l) σ | false => .stuck)
      | none => .stuck))
  | _, _ => .stuck
def optStep (ih : Nat → Ev) (d : Nat) : Option Ex → St → Out (Option AV)
  | none, σ => .ok none σ
  | some e, σ => ((ih d).ex e σ).bind fun v σ => .ok (some v) σ

def exStep (P : Prg) (ih : Nat → Ev) (d : Nat) : Ex → St → Out AV
  | .cst v, σ => .ok (.p v) σ
  | .loc i, σ => (match σ.lo[i]? with | some (some v) => .ok v σ | _ => .stuck)
  | .bin o a b, σ => ((ih d).ex a σ).bind fun x σ => ((ih d).ex b σ).bind fun y σ => binop o x y σ
  | .cmp o a b, σ => ((ih d).ex a σ).bind fun x σ => ((ih d).ex b σ).bind fun y σ => (match cmpop o x y σ with | some r => .ok (.p (.bool r)) σ | none => .stuck)
  | .not a, σ => ((ih d).ex a σ).bind fun x σ => (match truth x σ with | some r => .ok (.p (.bool (!r))) σ | none => .stuck)
  | .neg a, σ => ((ih d).ex a σ).bind fun x σ => (match x with | .p (.int i) => .ok (.p (.int (-i))) σ | _ => .stuck)
  | .and a b, σ => ((ih d).ex a σ).bind fun x σ => (match truth x σ with | some true => (ih d).ex b σ | some false => .ok x σ | none => .stuck)
  | .or a b, σ => ((ih d).ex a σ).bind fun x σ => (match truth x σ with | some true => .ok x σ | some false => (ih d).ex b σ | none => .stuck)
  | .ite c a b, σ => ((ih d).tst c σ).bind fun r σ => match r with | true => (ih d).ex a σ | false => (ih d).ex b σ
  | .tup l, σ => ((ih d).exs l σ).bind fun vs σ => (match vs.mapM pOf with | some ps => (match okLen ps.length with | true => .ok (.p (.tup ps)) σ | false => .stuck) | none => .stuck)
  | .lst l, σ => ((ih d).exs l σ).bind fun vs σ => newLst vs σ
  | .idx e i, σ => ((ih d).ex e σ).bind fun x σ => ((ih d).ex i σ).bind fun y σ => (match idxOf σ x y with | some v => .ok v σ | none => .stuck)
  | .sli e lo hi, σ => ((ih d).ex e σ).bind fun x σ => (optStep ih d lo σ).bind fun a σ => (optStep ih d hi σ).bind fun b σ => sliV x a b σ
  | .callf f l, σ => ((ih d).exs l σ).bind fun vs σ => (ih d).call f vs σ
  | .bf b l, σ => ((ih d).exs l σ).bind fun vs σ => bfun b vs σ
  | .meth e _ (some b) l, σ => ((ih d).ex e σ).bind fun x σ => (match recvOk b x σ with | true => ((ih d).exs l σ).bind fun vs σ => bmeth b x vs σ | false => .stuck)
  | _, _ => .stuck

def exsStep (ih : Nat → Ev) (d : Nat) : List Ex → St → Out (List AV)
  | [], σ => .ok [] σ
  | e :: r, σ => ((ih d).ex e σ).bind fun v σ => ((ih d).exs r σ).bind fun vs σ => .ok (v :: vs) σ

def tstStep (ih : Nat → Ev) (d : Nat) : Ex → St → Out Bool
  | .not a, σ => ((ih d).tst a σ).bind fun r σ => .ok (!r) σ
  | .and a b, σ => ((ih d).tst a σ).bind fun r σ => match r with | true => (ih d).tst b σ | false => .ok false σ
  | .or a b, σ => ((ih d).tst a σ).bind fun r σ => match r with | true => .ok true σ | false => (ih d).tst b σ
  | .ite _ _ _, _ => .stuck
  | e, σ => ((ih d).ex e σ).bind fun v σ => (match truth v σ with | some r => .ok r σ | none => .stuck)

def setLo (i : Nat) (v : AV) (σ : St) : St := { σ with lo := σ.lo.set i (some v) }

def forStep (ih : Nat → Ev) (d : Nat) (x : Nat) (v : AV) (k : Nat) (b : List Sx) (σ : St) : Out Fl := match itemsOf σ v with
  | none => .stuck
  | some l => match l[k]? with
    | none => .ok .next σ
    | some y => ((ih d).sts b (setLo x y σ)).bind fun f σ => match f with
      | .next => (ih d).forL x v (k + 1) b σ
      | .cont => (ih d).forL x v (k + 1) b σ
      | .brk => .ok .next σ
      | .ret r => .ok (.ret r) σ
def forRStep (ih : Nat → Ev) (d : Nat) (x : Nat) (n k : Nat) (b : List Sx) (σ : St) : Out Fl := match Nat.blt k n with
    | false => .ok .next σ
    | true => ((ih d).sts b (setLo x (.p (.int k)) σ)).bind fun f σ => match f with
      | .next => (ih d).forR x n (k + 1) b σ
      | .cont => (ih d).forR x n (k + 1) b σ
      | .brk => .ok .next σ
      | .ret r => .ok (.ret r) σ
def whlStep (ih : Nat → Ev) (d : Nat) (c : Ex) (b : List Sx) (σ : St) : Out Fl := ((ih d).tst c σ).bind fun r σ => match r with
  | false => .ok .next σ
  | true => ((ih d).sts b σ).bind fun f σ => match f with
    | .next => (ih d).whl c b σ
    | .cont => (ih d).whl c b σ
    | .brk => .ok .next σ
    | .ret v => .ok (.ret v) σ

def stStep (ih : Nat → Ev) (d : Nat) : Sx → St → Out Fl
  | .expr e, σ => ((ih d).ex e σ).bind fun _ σ => .ok .next (trim σ)
  | .asg i e, σ => ((ih d).ex e σ).bind fun v σ => .ok .next (trim (setLo i v σ))
  | .ite c a b, σ => ((ih d).tst c σ).bind fun r σ => match r with | true => (ih d).sts a (trim σ) | false => (ih d).sts b (trim σ)
  | .whl c b, σ => (ih d).whl c b σ
  | .forL x e b, σ => ((ih d).ex e σ).bind fun v σ => ((ih d).forL x v 0 b { σ with fb := Nat.max σ.fb v.bd }).bind fun f τ => .ok f { τ with fb := σ.fb }
  | .forR x e b, σ => ((ih d).ex e σ).bind fun v σ => (match v with | .p (.int n) => (match smallI n && Nat.blt n.toNat 1000000 with | true => (ih d).forR x n.toNat 0 b σ | false => .stuck) | _ => .stuck)
  | .ret e, σ => ((ih d).ex e σ).bind fun v σ => .ok (.ret v) σ
  | .ret0, σ => .ok (.ret (.p .none)) σ
  | .pass, σ => .ok .next σ
  | .brk, σ => .ok .brk σ
  | .cont, σ => .ok .cont σ
  | _, _ => .stuck

def stsStep (ih : Nat → Ev) (d : Nat) : List Sx → St → Out Fl
  | [], σ => .ok .next σ
  | s :: r, σ => (stStep ih d s σ).bind fun f σ => match f with
    | .next => (ih d).sts r σ
    | f => .ok f σ

def ev (P : Prg) : Nat → Nat → Ev
  | 0 => fun _ => Ev.none
  | n + 1 => fun d => ⟨exStep P (ev P n) d, exsStep (ev P n) d, tstStep (ev P n) d, stsStep (ev P n) d, callStep P (ev P n) d, whlStep (ev P n) d, forStep (ev P n) d, forRStep (ev P n) d⟩

end Mine
namespace Mine
open PySem PySem.W PyProof.Rows PySem.Calls

structure Gl where
  prog : Program
  w : World
  K : Frag
  p : Program
  loose : List Str
  mean : ExcName → Option Value
  mg : Str → Option Value
  mb : Str → Option Value
  hb : Heap
  an : List Str

structure Fm where
  A₀ : Around
  base : Heap
  h₀ : Heap
  outer : List Env
  L : Addr
  f : Addr
  qual : Str
  scope : Scope
  cdv : Value
  ns : List Str
abbrev Fm.env (Φ : Fm) : Env := envOf Φ.qual Φ.scope Φ.L Φ.f Φ.cdv
abbrev Fm.A (Φ : Fm) : Around := Φ.A₀.deeper Φ.env

structure FmOk (G : Gl) (Φ : Fm) (d : Nat) : Prop where
  B : Below Φ.A₀ Φ.base Φ.outer Φ.h₀
  X : G.K.In Φ.h₀
  T : Top G.p G.loose G.mean G.mg G.mb Φ.h₀
  kb : G.hb.StaysIn Φ.h₀
  Kb : G.K.In G.hb
  fn : Φ.scope.kind = .function
  dp : Φ.A₀.depth + 1 + d < recursionLimit
  un : Φ.A₀.units + 3 + 20 * (d + 1) < cLine
  hd : Φ.A₀.handled = none
  nn : Φ.ns.Nodup

structure Re (G : Gl) (Φ : Fm) (own : Led) (σ : St) (h : Heap) (m : Str → Option Value) (trk frz : Led) : Prop where
  F : Fr Φ.h₀ Φ.L h m
  N : News Φ.h₀ Φ.L h (trk ++ (frz ++ own))
  nd : ((trk ++ (frz ++ own)).map (·.1)).Nodup
  hp : All2 (fun ao (q : Addr × Obj) => ORel G.an G.w.params G.hb (trk.map (·.1)) frz ao q.2) σ.hp trk
  bd : ∀ (k : Nat) (ao : AO), σ.hp[k]? = some ao → ao.bd ≤ Nat.max k σ.hw
  hw : σ.hw ≤ σ.hp.length
  lo : ∀ (i : Nat) (v : AV), σ.lo[i]? = some (some v) → ∃ x v', Φ.ns[i]? = some x ∧ m x = some v' ∧ VRel G.an G.hb (trk.map (·.1)) frz v v'
  fb : σ.fb ≤ σ.hp.length

/-- an exception in flight at this frame -/
def XCore (_G : Gl) (_Φ : Fm) (_own : Led) (_x : Exn) (_σ : St) (_m : Str → Option Value) (_trk _frz : Led) (_e : Addr) (_h : Heap) : Prop := False

def Post {α β : Type} (R : List Addr → Led → α → β → Prop) (G : Gl) (Φ : Fm) (own : Led) (m : Str → Option Value) (trk frz : Led) (s : Shared) (o : Out α) (Q : β → Shared → Prop) (E : Value → Shared → Prop) : Prop := match o with
  | .ok a σ' => ∀ b h' tk' trk' frz', Re G Φ own σ' h' m trk' frz' → trk.map (·.1) <+: trk'.map (·.1) → (∀ q ∈ frz, q ∈ frz') → R (trk'.map (·.1)) frz' a b → Q b { s with heap := h', toks := tk' }
  | .exc x σ' => ∀ e h' tk' m' trk' frz', XCore G Φ own x σ' m' trk' frz' e h' → trk.map (·.1) <+: trk'.map (·.1) → (∀ q ∈ frz, q ∈ frz') → E (.ref e) { s with heap := h', toks := tk' }
  | .stuck => False

section
variable {α β γ δ : Type} {R : List Addr → Led → α → β → Prop} {S : List Addr → Led → γ → δ → Prop} {G : Gl} {Φ : Fm} {own : Led} {m : Str → Option Value} {trk frz : Led} {s : Shared} {E : Value → Shared → Prop}
theorem Post.later {trk₁ frz₁ : Led} {h₁ : Heap} {tk₁ : Nat} {o : Out γ} {Q : δ → Shared → Prop} (h : Post S G Φ own m trk frz s o Q E) (hp : trk.map (·.1) <+: trk₁.map (·.1)) (hf : ∀ q ∈ frz, q ∈ frz₁) :
    Post S G Φ own m trk₁ frz₁ { s with heap := h₁, toks := tk₁ } o Q E := by
  cases o with
  | ok a σ => exact fun b h' tk' trk' frz' r p q v => h b h' tk' trk' frz' r (hp.trans p) (fun x hx => q x (hf x hx)) v
  | exc x σ => exact fun e h' tk' m' trk' frz' r p q => h e h' tk' m' trk' frz' r (hp.trans p) (fun x hx => q x (hf x hx))
  | stuck => exact h
theorem Post.bind {o : Out α} {k : α → St → Out γ} {Q : δ → Shared → Prop} {Q' : β → Shared → Prop} (h : Post S G Φ own m trk frz s (o.bind k) Q E)
    (step : ∀ a σ₁ b h₁ tk₁ trk₁ frz₁, o = .ok a σ₁ → Re G Φ own σ₁ h₁ m trk₁ frz₁ → trk.map (·.1) <+: trk₁.map (·.1) → (∀ q ∈ frz, q ∈ frz₁) → R (trk₁.map (·.1)) frz₁ a b →
      Post S G Φ own m trk₁ frz₁ { s with heap := h₁, toks := tk₁ } (k a σ₁) Q E → Q' b { s with heap := h₁, toks := tk₁ }) : Post R G Φ own m trk frz s o Q' E := by
  cases o with
  | ok a σ => exact fun b h' tk' trk' frz' r p q v => step a σ b h' tk' trk' frz' rfl r p q v (Post.later h p q)
  | exc x σ => exact h
  | stuck => exact h.elim
theorem Post.ret {a : α} {b : β} {σ : St} {Q : β → Shared → Prop} {tk : Nat} (h : Post R G Φ own m trk frz s (.ok a σ) Q E) (r : Re G Φ own σ s.heap m trk frz) (v : R (trk.map (·.1)) frz a b) : Q b { s with toks := tk } :=
  h b s.heap tk trk frz r (List.prefix_refl _) (fun _ q => q) v
theorem Post.ret0 {a : α} {b : β} {σ : St} {Q : β → Shared → Prop} (h : Post R G Φ own m trk frz s (.ok a σ) Q E) (r : Re G Φ own σ s.heap m trk frz) (v : R (trk.map (·.1)) frz a b) : Q b s :=
  h b s.heap s.toks trk frz r (List.prefix_refl _) (fun _ q => q) v
end

abbrev VR (G : Gl) : List Addr → Led → AV → Value → Prop := VRel G.an G.hb
abbrev VRs (G : Gl) : List Addr → Led → List AV → List Value → Prop := fun ι frz => All2 (VRel G.an G.hb ι frz)
abbrev BR : List Addr → Led → Bool → Bool → Prop := fun _ _ a b => a = b

def SEx (G : Gl) (Φ : Fm) (e : Expr) (r : St → Out AV) : Prop := ∀ own σ s m trk frz Q E, Re G Φ own σ s.heap m trk frz → Post (VR G) G Φ own m trk frz s (r σ) Q E → wpAny (model G.prog G.w) Φ.A (eval e Φ.env) Q E s
def SExs (G : Gl) (Φ : Fm) (l : List Expr) (r : St → Out (List AV)) : Prop := ∀ pos own σ s m trk frz Q E, Re G Φ own σ s.heap m trk frz → Post (VRs G) G Φ own m trk frz s (r σ) Q E → wpAny (model G.prog G.w) Φ.A (spliced (backTo pos (starEach l Φ.env))) Q E s
def STs (G : Gl) (Φ : Fm) (e : Expr) (r : St → Out Bool) : Prop := ∀ own σ s m trk frz Q E, Re G Φ own σ s.heap m trk frz → Post BR G Φ own m trk frz s (r σ) Q E → wpAny (model G.prog G.w) Φ.A (isTrue e Φ.env (eval e Φ.env)) Q E s

structure CC where
  K : Frag
  scope : Scope
  ns : List Str
  an : List Str

/-- top values -/
def pvK (K : Frag) : Nat → Value → Option PV
  | _, .none => some .none
  | _, .bool b => some (.bool b)
  | _, .int i _ => some (.int i)
  | _, .str s _ => some (.str s.cps.toList)
  | n + 1, .ref a => match K.lookup a with
    | some ⟨.type "tuple", _, .seq its _, _⟩ => (its.toList.mapM (pvK K n)).map .tup
    | _ => none
  | _, _ => none

inductive BFv : BF → Value → Prop where
  | len : BFv .len (.builtin "len")
  | list : BFv .list (.type "list")
  | flist : BFv .flist (.type "list")
  | tuple : BFv .tuple (.type "tuple")
  | str : BFv .str (.type "str")
  | int : BFv .int (.type "int")
  | max : BFv .max (.builtin "max")

def BM.name : BM → Str
  | .append => "append"
  | .pop => "pop"
  | .extend => "extend"
  | .join => "join"
  | .startswith => "startswith"
  | .split => "split"
  | .rstrip => "rstrip"
  | .count => "count"
  | .rfind => "rfind"
  | .find => "find"

mutual
inductive Cm (c : CC) : Expr → Ex → Prop where
  | cnone {k pos} : Cm c (.Constant .none k pos) (.cst .none)
  | cbool {b k pos} : Cm c (.Constant (.bool b) k pos) (.cst (.bool b))
  | cint {i k pos} : Cm c (.Constant (.int i) k pos) (.cst (.int i))
  | cstr {s : Str} {l : List Nat} {k pos} : s = ⟨l.toArray⟩ → Cm c (.Constant (.str s) k pos) (.cst (.str l))
  | loc {x pos} {i : Nat} : c.ns[i]? = some x → c.scope.names.lookup x = some .local → (x == ("__debug__" : Str)) = false → Cm c (.Name x pos) (.loc i)
  | glob {x pos v pv} : c.scope.names.lookup x = some .globalImplicit → (x == ("__debug__" : Str)) = false → nsIn c.K mainGlobals x = some (some v) → pvK c.K 9 v = some pv → Cm c (.Name x pos) (.cst pv)
  | add {a b x y pos} : Cm c a x → Cm c b y → Cm c (.BinOp a .Add b pos) (.bin .add x y)
  | sub {a b x y pos} : Cm c a x → Cm c b y → Cm c (.BinOp a .Sub b pos) (.bin .sub x y)
  | mul {a b x y pos} : Cm c a x → Cm c b y → Cm c (.BinOp a .Mult b pos) (.bin .mul x y)
  | fdiv {a b x y pos} : Cm c a x → Cm c b y → Cm c (.BinOp a .FloorDiv b pos) (.bin .fdiv x y)
  | mod {a b x y pos} : Cm c a x → Cm c b y → Cm c (.BinOp a .Mod b pos) (.bin .mod x y)
  | eq {a b x y pos} : Cm c a x → Cm c b y → Cm c (.Compare a [.Eq] [b] pos) (.cmp .eq x y)
  | ne {a b x y pos} : Cm c a x → Cm c b y → Cm c (.Compare a [.NotEq] [b] pos) (.cmp .ne x y)
  | lt {a b x y pos} : Cm c a x → Cm c b y → Cm c (.Compare a [.Lt] [b] pos) (.cmp .lt x y)
  | le {a b x y pos} : Cm c a x → Cm c b y → Cm c (.Compare a [.LtE] [b] pos) (.cmp .le x y)
  | gt {a b x y pos} : Cm c a x → Cm c b y → Cm c (.Compare a [.Gt] [b] pos) (.cmp .gt x y)
  | ge {a b x y pos} : Cm c a x → Cm c b y → Cm c (.Compare a [.GtE] [b] pos) (.cmp .ge x y)
  | isin {a b x y pos} : Cm c a x → Cm c b y → Cm c (.Compare a [.In] [b] pos) (.cmp .isin x y)
  | notin {a b x y pos} : Cm c a x → Cm c b y → Cm c (.Compare a [.NotIn] [b] pos) (.cmp .notin x y)
  | is {a b x y pos} : Cm c a x → Cm c b y → Cm c (.Compare a [.Is] [b] pos) (.cmp .is x y)
  | isnot {a b x y pos} : Cm c a x → Cm c b y → Cm c (.Compare a [.IsNot] [b] pos) (.cmp .isnot x y)
  | not {a x pos} : Cm c a x → Cm c (.UnaryOp .Not a pos) (.not x)
  | neg {a x pos} : Cm c a x → Cm c (.UnaryOp .USub a pos) (.neg x)
  | and2 {a b x y pos} : Cm c a x → Cm c b y → Cm c (.BoolOp .And [a, b] pos) (.and x y)
  | and3 {a b e l x y pos} : Cm c a x → Cm c (.BoolOp .And (b :: e :: l) pos) y → Cm c (.BoolOp .And (a :: b :: e :: l) pos) (.and x y)
  | or2 {a b x y pos} : Cm c a x → Cm c b y → Cm c (.BoolOp .Or [a, b] pos) (.or x y)
  | or3 {a b e l x y pos} : Cm c a x → Cm c (.BoolOp .Or (b :: e :: l) pos) y → Cm c (.BoolOp .Or (a :: b :: e :: l) pos) (.or x y)
  | ite {t a b z x y pos} : Cm c t z → Cm c a x → Cm c b y → Cm c (.IfExp t a b pos) (.ite z x y)
  | tup {l xs k pos} : Cms c l xs → Cm c (.Tuple l k pos) (.tup xs)
  | lst {l xs pos} : Cms c l xs → Cm c (.List l pos) (.lst xs)
  | att {a x n pos} {i : Nat} : Cm c a x → c.an[i]? = some n → (∀ env w, attributeBase a n env w = w) → Cm c (.Attribute a n pos) (.att x i)
  | idx {a b x y pos} : Cm c a x → Cm c b y → Cm c (.Subscript a b pos) (.idx x y)
  | sli_n {a b x y sp pos} : Cm c a x → Cm c b y → Cm c (.Subscript a (.Slice none (some b) none sp) pos) (.sli x none (some y))
  | sli_s {a b x y sp pos} : Cm c a x → Cm c b y → Cm c (.Subscript a (.Slice (some b) none none sp) pos) (.sli x (some y) none)
  | sli_ss {a b e x y z sp pos} : Cm c a x → Cm c b y → Cm c e z → Cm c (.Subscript a (.Slice (some b) (some e) none sp) pos) (.sli x (some y) (some z))
  | callf {x fp args pos f l} : c.scope.names.lookup x = some .globalImplicit → (x == ("__debug__" : Str)) = false → nsIn c.K mainGlobals x = some (some (.ref f)) → keepIn c.K (.ref f) = true → Cms c args l → Cm c (.Call (.Name x fp) args [] pos) (.callf f l)
  | new {x fp args pos f l} : c.scope.names.lookup x = some .globalImplicit → (x == ("__debug__" : Str)) = false → nsIn c.K mainGlobals x = some (some (.ref f)) → keepIn c.K (.ref f) = true → Cms c args l → Cm c (.Call (.Name x fp) args [] pos) (.new f l)
  | bf {x fp args pos v b l} : c.scope.names.lookup x = some .globalImplicit → (x == ("__debug__" : Str)) = false → nsIn c.K mainGlobals x = some none → bootBuiltins x = some v → x ≠ "__name__" → BFv b v → Cms c args l → Cm c (.Call (.Name x fp) args [] pos) (.bf b l)
  | bm {a x n ap args pos l} {i : Nat} {b : BM} : Cm c a x → n = b.name → c.an[i]? = some n → (∀ env w, attributeBase a n env w = w) → (ap.endLine == pos.line) = true → Nat.blt args.length 29 = true → Cms c args l → Cm c (.Call (.Attribute a n ap) args [] pos) (.meth x i (some b) l)
  | meth {a x n ap args pos l} {i : Nat} : Cm c a x → c.an[i]? = some n → (∀ env w, attributeBase a n env w = w) → (ap.endLine == pos.line) = true → Nat.blt args.length 29 = true → Cms c args l → Cm c (.Call (.Attribute a n ap) args [] pos) (.meth x i none l)
inductive Cms (c : CC) : List Expr → List Ex → Prop where
  | nil : Cms c [] []
  | cons {a x l r} : Cm c a x → Cms c l r → Cms c (a :: l) (x :: r)
end

mutual
inductive Ct (c : CC) : Stmt → Sx → Prop where
  | expr {e x pos} : Cm c e x → Ct c (.Expr e pos) (.expr x)
  | asg {n p e x pos} {i : Nat} : c.ns[i]? = some n → c.scope.names.lookup n = some .local → Cm c e x → Ct c (.Assign [.Name n p] e pos) (.asg i x)
  | asgA {o n p e x y pos} {i : Nat} : Cm c o y → c.an[i]? = some n → Cm c e x → Ct c (.Assign [.Attribute o n p] e pos) (.asgA y i x)
  | ite {t a b z x y pos} : Cm c t z → Cts c a x → Cts c b y → Ct c (.If t a b pos) (.ite z x y)
  | whl {t a z x pos} : Cm c t z → Cts c a x → Ct c (.While t a [] pos) (.whl z x)
  | forL {n p e b x y pos} {i : Nat} : c.ns[i]? = some n → c.scope.names.lookup n = some .local → Cm c e x → Cts c b y → Ct c (.For (.Name n p) e b [] pos) (.forL i x y)
  | forR {n p e b x y pos cp rp r} {i : Nat} : c.ns[i]? = some n → c.scope.names.lookup n = some .local → c.scope.names.lookup r = some .globalImplicit → (r == ("__debug__" : Str)) = false → nsIn c.K mainGlobals r = some none → bootBuiltins r = some (.type "range") → r ≠ "__name__" →
      Cm c e x → Cts c b y → Ct c (.For (.Name n p) (.Call (.Name r rp) [e] [] cp) b [] pos) (.forR i x y)
  | ret {e x pos} : Cm c e x → Ct c (.Return (some e) pos) (.ret x)
  | ret0 {pos} : Ct c (.Return none pos) .ret0
  | pass {pos} : Ct c (.Pass pos) .pass
  | brk {pos} : Ct c (.Break pos) .brk
  | cont {pos} : Ct c (.Continue pos) .cont
inductive Cts (c : CC) : List Stmt → List Sx → Prop where
  | nil : Cts c [] []
  | cons {a x l r} : Ct c a x → Cts c l r → Cts c (a :: l) (x :: r)
end

end Mine
namespace Mine
open PySem PySem.W PyProof.Rows PySem.Calls

theorem mapM_all2 {α β : Type} {f : α → Option β} : ∀ {l : List α} {r : List β}, l.mapM f = some r → All2 (fun a b => f a = some b) l r
  | [], r, e => by simp at e; subst e; exact .nil
  | a :: l, r, e => by
    simp only [List.mapM_cons, Option.bind_eq_bind, Option.bind_eq_some_iff, Option.pure_def, Option.some.injEq] at e
    obtain ⟨b, hb, rs, hr, rfl⟩ := e
    exact .cons hb (mapM_all2 hr)

theorem All2.flip {α β : Type} {R : α → β → Prop} {l : List α} {r : List β} (h : All2 R l r) : All2 (fun b a => R a b) r l := by
  induction h with
  | nil => exact .nil
  | cons h _ ih => exact .cons h ih

theorem pvK_sound {K : Frag} {an : List Str} {hb : Heap} {frz : Led} (X : K.In hb) : ∀ (n : Nat) {v : Value} {pv : PV}, pvK K n v = some pv → PRel an hb frz pv v := by
  intro n
  induction n with
  | zero =>
    intro v pv e
    cases v <;> simp only [pvK, Option.some.injEq, reduceCtorEq] at e
    all_goals subst e
    · exact .none
    · exact .bool _
    · exact .int _ _
    · rename_i s t; obtain ⟨c⟩ := s; have := PRel.str (an := an) (hb := hb) (frz := frz) c.toList t; simpa using this
  | succ n ih =>
    intro v pv e
    cases v <;> simp only [pvK, Option.some.injEq, reduceCtorEq] at e
    · subst e; exact .none
    · subst e; exact .bool _
    · subst e; exact .int _ _
    · subst e; rename_i s t; obtain ⟨c⟩ := s; have := PRel.str (an := an) (hb := hb) (frz := frz) c.toList t; simpa using this
    · rename_i a
      split at e
      · rename_i its nn sl ho
        obtain ⟨l, hl, rfl⟩ := Option.map_eq_some_iff.mp e
        have h2 := (mapM_all2 hl).flip.mono (S := fun b a => PRel an hb frz b a) fun b a q => ih q
        exact .tup (n := nn) (.inl (X _ _ ho)) rfl (by simp) (PRels.of h2)
      · cases e

section
variable {G : Gl} {Φ : Fm} {d : Nat} {own : Led} {σ : St} {s : Shared} {m : Str → Option Value} {trk frz : Led} {E : Value → Shared → Prop}

theorem VRel.bd_le {an : List Str} {hb : Heap} {ι : List Addr} {frz : Led} {v : AV} {x : Value} (h : VRel an hb ι frz v x) : v.bd ≤ ι.length := by
  cases h with
  | p _ => exact Nat.zero_le _
  | obj e => exact (List.getElem?_eq_some_iff.mp e).1
  | ins e _ => exact (List.getElem?_eq_some_iff.mp e).1

theorem s_cst {c : Const} {k : Nat} {pos : Pos} {pv : PV} (h : ∀ s : Shared, ∃ v tk, PRel G.an G.hb frz pv v ∧ ∀ (Q : Value → Shared → Prop), Q v { s with toks := tk } → wpAny (model G.prog G.w) Φ.A (eval (.Constant c k pos) Φ.env) Q E s)
    (Q : Value → Shared → Prop) (r : Re G Φ own σ s.heap m trk frz) (p : Post (VR G) G Φ own m trk frz s (.ok (.p pv) σ) Q E) : wpAny (model G.prog G.w) Φ.A (eval (.Constant c k pos) Φ.env) Q E s := by
  obtain ⟨v, tk, hr, hq⟩ := h s
  exact hq Q (p.ret r (.p hr))

theorem sx_none {k pos} : SEx G Φ (.Constant .none k pos) (fun σ => .ok (.p .none) σ) := fun own σ s m trk frz Q E r p =>
  s_cst (fun s => ⟨.none, s.toks, .none, fun _ q => Constant_none q⟩) Q r p
theorem sx_bool {b k pos} : SEx G Φ (.Constant (.bool b) k pos) (fun σ => .ok (.p (.bool b)) σ) := fun own σ s m trk frz Q E r p =>
  s_cst (fun s => ⟨.bool b, s.toks, .bool b, fun _ q => Constant_bool q⟩) Q r p
theorem sx_int {i k pos} : SEx G Φ (.Constant (.int i) k pos) (fun σ => .ok (.p (.int i)) σ) := fun own σ s m trk frz Q E r p =>
  s_cst (fun s => ⟨.int i s.toks, s.toks + 1, .int i _, fun _ q => wpAny_Constant_int q⟩) Q r p
theorem sx_str {l k pos} : SEx G Φ (.Constant (.str ⟨l.toArray⟩) k pos) (fun σ => .ok (.p (.str l)) σ) := fun own σ s m trk frz Q E r p =>
  s_cst (fun s => ⟨.str ⟨l.toArray⟩ s.toks, s.toks + 1, .str l _, fun _ q => wpAny_Constant_str q⟩) Q r p
theorem sx_loc {x pos} {i : Nat} (ok : FmOk G Φ d) (hi : Φ.ns[i]? = some x) (hl : Φ.scope.names.lookup x = some .local) (hd : (x == ("__debug__" : Str)) = false) :
    SEx G Φ (.Name x pos) (fun σ => match σ.lo[i]? with | some (some v) => .ok v σ | _ => .stuck) := by
  intro own σ s m trk frz Q E r p
  dsimp only at p
  split at p
  · rename_i v hv
    obtain ⟨x', v', hx', hm, hr⟩ := r.lo i v hv
    rw [hi] at hx'; cases hx'
    exact ld r.F hm (p.ret0 r hr) ok.fn hl hd
  · exact p.elim
theorem sx_glob {x pos v pv} (ok : FmOk G Φ d) (hl : Φ.scope.names.lookup x = some .globalImplicit) (hd : (x == ("__debug__" : Str)) = false) (hv : nsIn G.K mainGlobals x = some (some v)) (hp : pvK G.K 9 v = some pv) :
    SEx G Φ (.Name x pos) (fun σ => .ok (.p pv) σ) := by
  intro own σ s m trk frz Q E r p
  exact name_K r.F ok.X (topRead_of ok.T) hv (p.ret0 r (.p (pvK_sound ok.Kb 9 hp))) ok.fn hl hd

def SBin (G : Gl) (Φ : Fm) (op : Operator) (f : AV → AV → St → Out AV) : Prop := ∀ own σ s m trk frz Q E x y x' y', Re G Φ own σ s.heap m trk frz → VR G (trk.map (·.1)) frz x x' → VR G (trk.map (·.1)) frz y y' →
  Post (VR G) G Φ own m trk frz s (f x y σ) Q E → wpAny (model G.prog G.w) Φ.A (binaryOp op x' y') Q E s

theorem sx_bin {a b : Expr} {op : Operator} {pos : Pos} {f : AV → AV → St → Out AV} {ra rb : St → Out AV} (ha : SEx G Φ a ra) (hb : SEx G Φ b rb) (ho : SBin G Φ op f) :
    SEx G Φ (.BinOp a op b pos) (fun σ => (ra σ).bind fun x σ => (rb σ).bind fun y σ => f x y σ) := by
  intro own σ s m trk frz Q E r p
  refine wpAny_BinOp (ha own σ s m trk frz _ E r (p.bind fun x σ₁ x' h₁ tk₁ trk₁ frz₁ _ r₁ e₁ f₁ v₁ p₁ => ?_))
  refine hb own σ₁ _ m trk₁ frz₁ _ E r₁ (p₁.bind fun y σ₂ y' h₂ tk₂ trk₂ frz₂ _ r₂ e₂ f₂ v₂ p₂ => ?_)
  exact ho own σ₂ _ m trk₂ frz₂ Q E x y x' y' r₂ (v₁.mono e₂ f₂) v₂ p₂

theorem small_le {a : Int} (h : smallI a = true) : -1000000000000 < a ∧ a < 1000000000000 := by
  unfold smallI at h
  simpa using h

end
end Mine
namespace Mine
open PySem PySem.W PyProof.Rows PySem.Calls

theorem newsSub {h₀ h : Heap} {L : Addr} {l l' : Led} (N : News h₀ L h l) (k : ∀ p ∈ l', p ∈ l) : News h₀ L h l' := fun p hp => N p (k p hp)

theorem bds_le {l : List AV} {n : Nat} : bds l ≤ n ↔ ∀ v ∈ l, v.bd ≤ n := by
  induction l with
  | nil => simp [bds]
  | cons v r ih =>
    simp only [bds, List.mem_cons, forall_eq_or_imp, ← ih]
    exact Nat.max_le
theorem obds_le {l : List (Option AV)} {n : Nat} : obds l ≤ n ↔ ∀ v, some v ∈ l → v.bd ≤ n := by
  induction l with
  | nil => simp [obds]
  | cons v r ih =>
    cases v with
    | none => simp only [obds, List.mem_cons, reduceCtorEq, false_or]; exact ih
    | some v =>
      simp only [obds, List.mem_cons, Option.some.injEq]
      refine Nat.max_le.trans ?_
      rw [ih]
      constructor
      · rintro ⟨a, b⟩ w (rfl | hw)
        · exact a
        · exact b w hw
      · exact fun h => ⟨h v (.inl rfl), fun w hw => h w (.inr hw)⟩

theorem VRel.take {an : List Str} {hb : Heap} {ι : List Addr} {frz : Led} {v : AV} {x : Value} {n : Nat} (h : VRel an hb ι frz v x) (hn : v.bd ≤ n) : VRel an hb (ι.take n) frz v x := by
  cases h with
  | p h => exact .p h
  | obj e => exact .obj (by rw [List.getElem?_take_of_lt hn]; exact e)
  | ins e m => exact .ins (by rw [List.getElem?_take_of_lt hn]; exact e) m
theorem all2_mono_mem {α β : Type} {R S : α → β → Prop} {l : List α} {r : List β} (h : All2 R l r) (k : ∀ a ∈ l, ∀ b, R a b → S a b) : All2 S l r := by
  induction h with
  | nil => exact .nil
  | cons h _ ih => exact .cons (k _ (.head _) _ h) (ih fun a ha => k a (.tail _ ha))
theorem ORel.take {an : List Str} {P : Params} {hb : Heap} {ι : List Addr} {frz : Led} {v : AO} {x : Obj} {n : Nat} (h : ORel an P hb ι frz v x) (hn : v.bd ≤ n) : ORel an P hb (ι.take n) frz v x := by
  cases h with
  | lst h => exact .lst (all2_mono_mem h fun a ha b q => q.take (bds_le.mp hn a ha))
  | fld h => exact .fld (all2_mono_mem h fun a ha b q => ⟨q.1, q.2.take (bds_le.mp hn a.2 (List.mem_map_of_mem ha))⟩)
  | dct h => exact .dct (all2_mono_mem h fun a ha b q => ⟨q.1, q.2.take (bds_le.mp hn a.2 (List.mem_map_of_mem ha))⟩)

section
variable {G : Gl} {Φ : Fm} {d : Nat} {own : Led} {σ : St} {h h' : Heap} {m : Str → Option Value} {trk frz : Led}

theorem Re.len (r : Re G Φ own σ h m trk frz) : σ.hp.length = trk.length := r.hp.length

theorem nodup_mid {α : Type} {a : α} {l r : List α} (h : (l ++ r).Nodup) (ha : a ∉ l ++ r) : ((l ++ [a]) ++ r).Nodup := by
  have : ((l ++ [a]) ++ r).Perm (a :: (l ++ r)) := by
    rw [List.append_assoc]
    exact List.perm_middle
  exact this.nodup_iff.mpr (List.nodup_cons.mpr ⟨ha, h⟩)

theorem Re.pushT {l : Addr} {o : Obj} {ao : AO} (r : Re G Φ own σ h m trk frz) (F : Fr Φ.h₀ Φ.L h' m) (N : News Φ.h₀ Φ.L h' ((l, o) :: (trk ++ (frz ++ own)))) (hl : ∀ p ∈ trk ++ (frz ++ own), p.1 < l)
    (hv : ORel G.an G.w.params G.hb (trk.map (·.1)) frz ao o) (hb : ao.bd ≤ σ.hp.length) : Re G Φ own { σ with hp := σ.hp ++ [ao] } h' m (trk ++ [(l, o)]) frz := by
  have hι : trk.map (·.1) <+: (trk ++ [(l, o)]).map (·.1) := ⟨[l], by simp⟩
  refine ⟨F, newsSub N fun p hp => ?_, ?_, ?_, fun k a e => ?_, ?_, fun i v e => ?_, ?_⟩
  · simp only [List.append_assoc, List.mem_append, List.mem_cons, List.not_mem_nil, or_false] at hp ⊢
    rcases hp with hp | hp | hp <;> simp [hp]
  · rw [List.append_assoc, List.map_append, List.map_append]
    have := r.nd
    rw [List.map_append] at this
    have hn := nodup_mid (a := l) this (by
      intro hm
      rw [← List.map_append] at hm
      obtain ⟨p, hp, rfl⟩ := List.mem_map.mp hm
      exact absurd (hl p hp) (Nat.lt_irrefl _))
    simpa using hn
  · refine All2.append (r.hp.mono fun a b q => q.mono hι fun _ h => h) (All2.cons (b := (l, o)) (hv.mono hι fun _ h => h) .nil)
  · dsimp only at e ⊢
    rw [List.getElem?_append] at e
    split at e
    · exact r.bd k a e
    · rename_i hk
      have : a = ao := by
        cases q : k - σ.hp.length with
        | zero => rw [q] at e; cases e; rfl
        | succ n => rw [q] at e; cases e
      subst this
      exact Nat.le_trans hb (Nat.le_trans (Nat.le_of_not_lt hk) (Nat.le_max_left _ _))
  · have := r.hw; simp; omega
  · obtain ⟨x, v', a, b, c⟩ := r.lo i v e
    exact ⟨x, v', a, b, c.mono hι fun _ h => h⟩
  · have := r.fb; simp; omega

theorem Re.pushF {l : Addr} {o : Obj} (r : Re G Φ own σ h m trk frz) (F : Fr Φ.h₀ Φ.L h' m) (N : News Φ.h₀ Φ.L h' ((l, o) :: (trk ++ (frz ++ own)))) (hl : ∀ p ∈ trk ++ (frz ++ own), p.1 < l) :
    Re G Φ own σ h' m trk ((l, o) :: frz) := by
  refine ⟨F, newsSub N fun p hp => ?_, ?_, r.hp.mono fun a b q => q.mono (List.prefix_refl _) fun _ h => .tail _ h, r.bd, r.hw, fun i v e => ?_, r.fb⟩
  · simp only [List.cons_append, List.mem_append, List.mem_cons] at hp ⊢
    rcases hp with hp | hp | hp | hp <;> simp [hp]
  · have hn := r.nd
    have : ((trk ++ ((l, o) :: frz ++ own)).map (·.1)).Perm (l :: (trk ++ (frz ++ own)).map (·.1)) := by
      rw [List.map_append, List.map_append, List.map_append, List.map_append, List.map_cons]
      exact List.perm_middle
    refine this.nodup_iff.mpr (List.nodup_cons.mpr ⟨fun hm => ?_, hn⟩)
    obtain ⟨p, hp, e⟩ := List.mem_map.mp hm
    exact absurd (hl p hp) (e ▸ Nat.lt_irrefl _)
  · obtain ⟨x, v', a, b, c⟩ := r.lo i v e
    exact ⟨x, v', a, b, c.mono (List.prefix_refl _) fun _ h => .tail _ h⟩

theorem upd_of {D : Addr} {o o' : Obj} : ∀ {trk : Led} {i : Nat} {r : Led}, ((trk ++ r).map (·.1)).Nodup → trk[i]? = some (D, o) → Upd D o o' (trk ++ r) (trk.set i (D, o') ++ r)
  | p :: t, 0, r, nd, e => by
    cases e
    rw [List.cons_append, List.map_cons] at nd
    refine .head fun q hq hne => (List.nodup_cons.mp nd).1 ?_
    have := List.mem_map_of_mem (f := (·.1)) hq
    rw [hne] at this; exact this
  | p :: t, i + 1, r, nd, e => by
    rw [List.cons_append, List.map_cons] at nd
    have hm : (D, o) ∈ t := List.mem_of_getElem? e
    refine .tail (fun hne => (List.nodup_cons.mp nd).1 ?_) (upd_of (List.nodup_cons.mp nd).2 e)
    rw [hne]
    exact List.mem_map_of_mem (f := (·.1)) (List.mem_append_left _ hm)

theorem set_keys {D : Addr} {o o' : Obj} {trk : Led} {i : Nat} (e : trk[i]? = some (D, o)) : (trk.set i (D, o')).map (·.1) = trk.map (·.1) := by
  rw [List.map_set]
  have : (trk.map (·.1))[i]? = some D := by rw [List.getElem?_map, e]; rfl
  apply List.ext_getElem?
  intro j
  rw [List.getElem?_set]
  split
  · rename_i q; subst q; split
    · exact this.symm
    · rename_i q; rw [List.getElem?_eq_none (Nat.le_of_not_lt q)] at this; cases this
  · rfl

theorem Re.setT {D : Addr} {o o' : Obj} {ao : AO} {i hw' : Nat} (r : Re G Φ own σ h m trk frz) (e : trk[i]? = some (D, o)) (F : Fr Φ.h₀ Φ.L h' m) (N : News Φ.h₀ Φ.L h' (trk.set i (D, o') ++ (frz ++ own)))
    (hv : ORel G.an G.w.params G.hb (trk.map (·.1)) frz ao o') (h1 : σ.hw ≤ hw') (h2 : hw' ≤ σ.hp.length) (hb : ao.bd ≤ Nat.max i hw') : Re G Φ own { σ with hp := σ.hp.set i ao, hw := hw' } h' m (trk.set i (D, o')) frz := by
  have hk := set_keys (o' := o') e
  refine ⟨F, N, ?_, ?_, fun k a q => ?_, ?_, fun j v q => ?_, ?_⟩
  · have := r.nd
    rw [List.map_append] at this ⊢
    rw [hk]; exact this
  · rw [hk]; exact r.hp.set hv i
  · dsimp only at q ⊢
    rw [List.getElem?_set] at q
    split at q
    · rename_i hik
      subst hik
      split at q
      · cases q; exact hb
      · cases q
    · exact Nat.le_trans (r.bd k a q) (Nat.max_le.mpr ⟨Nat.le_max_left _ _, Nat.le_trans h1 (Nat.le_max_right _ _)⟩)
  · simpa using h2
  · rw [hk]; exact r.lo j v q
  · simpa using r.fb

theorem Re.cut {n : Nat} (r : Re G Φ own σ h m trk frz) (h1 : σ.fb ≤ n) (h2 : σ.hw ≤ n) (h3 : obds σ.lo ≤ n) : Re G Φ own { σ with hp := σ.hp.take n } h m (trk.take n) frz := by
  have hk : (trk.take n).map (·.1) = (trk.map (·.1)).take n := by rw [List.map_take]
  refine ⟨r.F, newsSub r.N fun p hp => ?_, ?_, ?_, fun k a q => ?_, ?_, fun j v q => ?_, ?_⟩
  · rcases List.mem_append.mp hp with hp | hp
    · exact List.mem_append_left _ (List.mem_of_mem_take hp)
    · exact List.mem_append_right _ hp
  · refine List.Nodup.sublist ?_ r.nd
    exact ((List.take_sublist _ _).append (List.Sublist.refl _)).map _
  · rw [hk]
    have hb : ∀ (k : Nat) (ao : AO), (σ.hp.take n)[k]? = some ao → ao.bd ≤ n := fun k ao e => by
      rw [List.getElem?_take] at e
      split at e
      · exact Nat.le_trans (r.bd k ao e) (Nat.max_le.mpr ⟨by omega, h2⟩)
      · cases e
    refine all2_mono_mem (r.hp.take n) fun a ha b q => q.take ?_
    obtain ⟨k, hk'⟩ := List.getElem?_of_mem ha
    exact hb k a hk'
  · dsimp only at q
    rw [List.getElem?_take] at q
    split at q
    · exact r.bd k a q
    · cases q
  · have := r.hw
    simp only [List.length_take]; omega
  · obtain ⟨x, v', a, b, c⟩ := r.lo j v q
    exact ⟨x, v', a, b, hk ▸ c.take (obds_le.mp h3 v (List.mem_of_getElem? q))⟩
  · have := r.fb
    simp only [List.length_take]; omega

theorem Re.trim (r : Re G Φ own σ h m trk frz) : ∃ n, σ.fb ≤ n ∧ Re G Φ own (trim σ) h m (trk.take n) frz :=
  ⟨_, Nat.le_max_left _ _, r.cut (Nat.le_max_left _ _) (Nat.le_trans (Nat.le_max_left _ _) (Nat.le_max_right _ _)) (Nat.le_trans (Nat.le_max_right _ _) (Nat.le_max_right _ _))⟩

theorem Re.drop {q : Addr × Obj} (r : Re G Φ (q :: own) σ h m trk frz) : Re G Φ own σ h m trk frz := by
  refine ⟨r.F, newsSub r.N fun p hp => ?_, ?_, r.hp, r.bd, r.hw, r.lo, r.fb⟩
  · rcases List.mem_append.mp hp with hp | hp
    · exact List.mem_append_left _ hp
    · rcases List.mem_append.mp hp with hp | hp
      · exact List.mem_append_right _ (List.mem_append_left _ hp)
      · exact List.mem_append_right _ (List.mem_append_right _ (.tail _ hp))
  · refine List.Nodup.sublist ?_ r.nd
    exact ((List.Sublist.refl _).append ((List.Sublist.refl _).append (List.sublist_cons_self _ _))).map _

theorem Re.mem_own {q : Addr × Obj} (r : Re G Φ (q :: own) σ h m trk frz) : h.get? q.1 = some q.2 ∧ q.1 ≠ Φ.L ∧ Φ.h₀.get? q.1 = none :=
  r.N q (List.mem_append_right _ (List.mem_append_right _ (.head _)))

theorem Re.own_ne {q p : Addr × Obj} (r : Re G Φ (q :: own) σ h m trk frz) (hp : p ∈ trk ++ (frz ++ own)) : p.1 ≠ q.1 := by
  have hn := r.nd
  have : ((trk ++ (frz ++ q :: own)).map (·.1)).Perm (q.1 :: (trk ++ (frz ++ own)).map (·.1)) := by
    simp only [List.map_append, List.map_cons]
    rw [← List.append_assoc, ← List.append_assoc]
    exact List.perm_middle
  have hn := (List.nodup_cons.mp (this.nodup_iff.mp hn)).1
  intro e
  exact hn (e ▸ List.mem_map_of_mem (f := (·.1)) hp)

theorem Re.but {q : Addr × Obj} (r : Re G Φ (q :: own) σ h m trk frz) (hs : Heap.ExtBut q.1 h h') : Re G Φ own σ h' m trk frz := by
  have hq := r.mem_own
  have d := r.drop
  refine ⟨⟨d.F.ns.extBut hs (Ne.symm hq.2.1), fun b o e => hs b o ?_ (d.F.keep b o e), d.F.above⟩, fun p hp => ⟨hs _ _ (r.own_ne hp) (d.N p hp).1, (d.N p hp).2⟩, d.nd, d.hp, d.bd, d.hw, d.lo, d.fb⟩
  intro e'
  rw [e', hq.2.2] at e
  cases e

theorem Re.reown {q : Addr × Obj} {o' : Obj} (r : Re G Φ (q :: own) σ h m trk frz) (hs : Heap.ExtBut q.1 h h') (ho : h'.get? q.1 = some o') : Re G Φ ((q.1, o') :: own) σ h' m trk frz := by
  have b := r.but hs
  have hq := r.mem_own
  refine ⟨b.F, fun p hp => ?_, ?_, b.hp, b.bd, b.hw, b.lo, b.fb⟩
  · rcases List.mem_append.mp hp with hp | hp
    · exact b.N p (List.mem_append_left _ hp)
    · rcases List.mem_append.mp hp with hp | hp
      · exact b.N p (List.mem_append_right _ (List.mem_append_left _ hp))
      · rcases List.mem_cons.mp hp with rfl | hp
        · exact ⟨ho, hq.2⟩
        · exact b.N p (List.mem_append_right _ (List.mem_append_right _ hp))
  · have := r.nd
    simp only [List.map_append, List.map_cons] at this ⊢
    exact this

theorem Re.pushO {o : Obj} (r : Re G Φ own σ h m trk frz) (hf : o.isFreed = false := by rfl) : Re G Φ ((h.objs.size, o) :: own) σ (h.push o) m trk frz := by
  have N := r.N.push r.F o hf
  refine ⟨r.F.push o, newsSub N fun p hp => ?_, ?_, r.hp, r.bd, r.hw, r.lo, r.fb⟩
  · simp only [List.mem_append, List.mem_cons] at hp ⊢
    rcases hp with hp | hp | hp | hp <;> simp [hp]
  · have : ((trk ++ (frz ++ (h.objs.size, o) :: own)).map (·.1)).Perm (h.objs.size :: (trk ++ (frz ++ own)).map (·.1)) := by
      simp only [List.map_append, List.map_cons]
      rw [← List.append_assoc, ← List.append_assoc]
      exact List.perm_middle
    refine this.nodup_iff.mpr (List.nodup_cons.mpr ⟨fun hm => ?_, r.nd⟩)
    obtain ⟨p, hp, e⟩ := List.mem_map.mp hm
    have := Heap.lt_size (r.N p hp).1
    exact absurd this (e ▸ Nat.lt_irrefl _)

end
end Mine
namespace Mine
open PySem PySem.W PyProof.Rows PySem.Calls

theorem okLen_le {n : Nat} (h : okLen n = true) : n < 1000000 := Nat.le_of_ble_eq_true h
theorem str_app (a b : List Nat) : (⟨a.toArray⟩ : Str) ++ ⟨b.toArray⟩ = ⟨(a ++ b).toArray⟩ := by
  show Str.mk _ = _
  congr 1
  simp
theorem str_len (a : List Nat) : (⟨a.toArray⟩ : Str).length = a.length := by simp [Str.length]
theorem rep_foldl (x : List Nat) : ∀ (n : Nat) (acc : Array Nat), (List.replicate n x.toArray).foldl (· ++ ·) acc = acc ++ (rep n x).toArray
  | 0, acc => by simp [rep]
  | n + 1, acc => by
    rw [List.replicate_succ, List.foldl_cons, rep_foldl x n, rep]
    simp [Array.append_assoc]
theorem rep_nil {α : Type} : ∀ n : Nat, rep n ([] : List α) = []
  | 0 => rfl
  | n + 1 => by rw [rep, rep_nil n]; rfl
theorem rep_length {α : Type} (l : List α) : ∀ n : Nat, (rep n l).length = l.length * n
  | 0 => by simp [rep]
  | n + 1 => by rw [rep, List.length_append, rep_length l n, Nat.mul_succ]; omega
theorem txt_mul (a : List Nat) (n : Int) : Txt.mul ⟨a.toArray⟩ n = ⟨(rep n.toNat a).toArray⟩ := by
  unfold Txt.mul
  split
  · have : n.toNat = 0 := by omega
    rw [this]; rfl
  · split
    · rename_i h
      rw [Bool.or_eq_true] at h
      rcases h with h | h
      · have : n = 1 := by simpa using h
        subst this
        simp [rep]
      · rw [str_len] at h
        have : a = [] := by cases a with | nil => rfl | cons => simp at h
        subst this
        rw [rep_nil]
    · congr 1
      have := rep_foldl a n.toNat #[]
      simpa using this
theorem reps_foldl {x : List Value} : ∀ (n : Nat) (acc : Array Value), (List.replicate n x.toArray).foldl (fun x1 x2 => x1 ++ x2) acc = acc ++ (rep n x).toArray
  | 0, acc => by simp [rep]
  | n + 1, acc => by
    rw [List.replicate_succ, List.foldl_cons, reps_foldl n, rep]
    simp [Array.append_assoc]
theorem All2.rep {α β : Type} {R : α → β → Prop} {l : List α} {r : List β} (h : All2 R l r) : ∀ n : Nat, All2 R (rep n l) (rep n r)
  | 0 => .nil
  | n + 1 => h.append (h.rep n)

section
variable {G : Gl} {Φ : Fm} {d : Nat} {own : Led} {σ : St} {h h' : Heap} {m : Str → Option Value} {trk frz : Led} {s : Shared} {E : Value → Shared → Prop}

theorem Re.at (ok : FmOk G Φ d) (r : Re G Φ own σ h m trk frz) {a : Addr} {o : Obj} (e : At G.hb frz a o) : h.get? a = some o := by
  rcases e with e | e
  · exact r.F.keep a o (ok.kb a o e)
  · exact (r.N (a, o) (List.mem_append_right _ (List.mem_append_left _ e))).1
theorem Re.trkAt (r : Re G Φ own σ h m trk frz) {i : Nat} {a : Addr} {o : Obj} (e : trk[i]? = some (a, o)) : h.get? a = some o :=
  (r.N (a, o) (List.mem_append_left _ (List.mem_of_getElem? e))).1
theorem Re.obj (r : Re G Φ own σ h m trk frz) {i : Nat} {a : Addr} {ao : AO} (e : (trk.map (·.1))[i]? = some a) (q : σ.hp[i]? = some ao) : ∃ o, trk[i]? = some (a, o) ∧ ORel G.an G.w.params G.hb (trk.map (·.1)) frz ao o := by
  obtain ⟨p, hp, ho⟩ := r.hp.get q
  refine ⟨p.2, ?_, ho⟩
  rw [List.getElem?_map, hp] at e
  rw [hp]
  cases e; rfl

theorem lst_at (ok : FmOk G Φ d) (r : Re G Φ own σ h m trk frz) {x : AV} {x' : Value} {l : List AV} (v : VR G (trk.map (·.1)) frz x x') (e : lstOf σ x = some l) :
    ∃ a vs, x' = .ref a ∧ All2 (VR G (trk.map (·.1)) frz) l vs ∧ h.IsList a vs.toArray := by
  cases v with
  | p v =>
    cases v <;> simp only [lstOf, reduceCtorEq, Option.some.injEq] at e
    rename_i ha hc hd hr
    subst e
    refine ⟨_, _, rfl, ?_, _, r.at ok ha, hc, _, hd⟩
    have : ∀ {l : List PV} {vs : List Value}, All2 (PRel G.an G.hb frz) l vs → All2 (VR G (trk.map (·.1)) frz) (l.map .p) vs := by
      intro l vs h
      induction h with
      | nil => exact .nil
      | cons h _ ih => exact .cons (.p h) ih
    exact this hr.all2
  | obj ha =>
    simp only [lstOf] at e
    split at e
    · rename_i q
      cases e
      obtain ⟨o, ho, hr⟩ := r.obj ha q
      cases hr with
      | lst hr => exact ⟨_, _, rfl, hr, _, r.trkAt ho, rfl, _, rfl⟩
    · cases e
  | ins _ _ => simp only [lstOf, reduceCtorEq] at e

theorem seq_at (ok : FmOk G Φ d) (r : Re G Φ own σ h m trk frz) {x : AV} {x' : Value} {l : List AV} (v : VR G (trk.map (·.1)) frz x x') (e : itemsOf σ x = some l) :
    ∃ a vs, x' = .ref a ∧ All2 (VR G (trk.map (·.1)) frz) l vs ∧ (h.IsList a vs.toArray ∨ IsTup h a vs.toArray) := by
  have up : ∀ {l : List PV} {vs : List Value}, All2 (PRel G.an G.hb frz) l vs → All2 (VR G (trk.map (·.1)) frz) (l.map .p) vs := by
      intro l vs h
      induction h with
      | nil => exact .nil
      | cons h _ ih => exact .cons (.p h) ih
  cases v with
  | p v =>
    cases v <;> simp only [itemsOf, reduceCtorEq, Option.some.injEq] at e
    all_goals
      rename_i ha hc hd hr
      subst e
    · exact ⟨_, _, rfl, up hr.all2, .inr ⟨_, r.at ok ha, hc, _, hd⟩⟩
    · exact ⟨_, _, rfl, up hr.all2, .inl ⟨_, r.at ok ha, hc, _, hd⟩⟩
  | obj ha =>
    simp only [itemsOf] at e
    split at e
    · rename_i q
      cases e
      obtain ⟨o, ho, hr⟩ := r.obj ha q
      cases hr with
      | lst hr => exact ⟨_, _, rfl, hr, .inl ⟨_, r.trkAt ho, rfl, _, rfl⟩⟩
    · cases e
  | ins _ _ => simp only [itemsOf, reduceCtorEq] at e

theorem bds_of {l : List AV} {vs : List Value} {ι : List Addr} {frz : Led} (h : All2 (VR G ι frz) l vs) : bds l ≤ ι.length := by
  rw [bds_le]
  intro v hv
  obtain ⟨i, hi⟩ := List.getElem?_of_mem hv
  obtain ⟨b, _, hb⟩ := h.get hi
  exact hb.bd_le

theorem newLst_post {l : List AV} {vs : List Value} {a : Addr} {Q : Value → Shared → Prop} {tk : Nat} {n : Nat} (r : Re G Φ own σ s.heap m trk frz) (hv : All2 (VR G (trk.map (·.1)) frz) l vs) (p : Post (VR G) G Φ own m trk frz s (newLst l σ) Q E)
    (F : Fr Φ.h₀ Φ.L h' m) (N : News Φ.h₀ Φ.L h' ((a, listOf vs.toArray n) :: (trk ++ (frz ++ own)))) (hl : ∀ p ∈ trk ++ (frz ++ own), p.1 < a) : Q (.ref a) { s with heap := h', toks := tk } := by
  unfold newLst at p
  split at p
  · have hb := bds_of (G := G) hv
    have r' := r.pushT F N hl (.lst hv) (by have := r.len; simp only [List.length_map] at hb; show bds l ≤ _; omega)
    refine p (.ref a) h' tk _ frz r' ⟨[a], by simp⟩ (fun _ q => q) (.obj ?_)
    rw [List.map_append, List.getElem?_append_right (by have := r.len; simp; omega)]
    have := r.len
    simp [this]
  · exact p.elim

theorem small_64 {a : Int} (h : smallI a = true) : Builtin.Int.intBits a ≤ 64 := by
  have := small_le h
  exact intBits_le_64 (by omega) (by omega)

theorem sb_add (ok : FmOk G Φ d) : SBin G Φ .Add badd := by
  intro own σ s m trk frz Q E x y x' y' r vx vy p
  unfold badd at p
  split at p
  · cases vx with | p vx => cases vx; cases vy with | p vy => cases vy; exact add_int (p.ret r (.p (.int _ _)))
  · split at p <;> first | exact p.elim | skip
    rename_i hl
    have hl := okLen_le hl
    cases vx with | p vx => cases vx; cases vy with | p vy =>
      cases vy
      refine PyProof.Rows.add_str (fun t' tk => p.ret r (.p ?_)) ?_
      · rw [str_app]; exact .str _ _
      · rw [str_len, str_len, sizeLine_eq]; omega
  · split at p <;> first | exact p.elim | skip
    rename_i a b ha hb
    obtain ⟨l, vs, rfl, h1, h2⟩ := lst_at ok r vx ha
    obtain ⟨l', vs', rfl, h3, h4⟩ := lst_at ok r vy hb
    have hlen : okLen (a ++ b).length = true := by
      unfold newLst at p
      split at p
      · assumption
      · exact p.elim
    have hlen := okLen_le hlen
    refine add_arrays r.F r.N h2 h4 (fun h' F' N' => ?_) ?_
    · exact newLst_post r (h1.append h3) p F' (by simpa using N') (fun p hp => Heap.lt_size (r.N p hp).1)
    · have e1 := h1.length
      have e2 := h3.length
      simp only [List.length_append, List.size_toArray] at hlen ⊢
      rw [sizeLine_eq]; omega
theorem sb_sub : SBin G Φ .Sub bsub := by
  intro own σ s m trk frz Q E x y x' y' r vx vy p
  unfold bsub at p
  split at p <;> first | exact p.elim | skip
  cases vx with | p vx => cases vx; cases vy with | p vy => cases vy; exact sub_int (p.ret r (.p (.int _ _)))
theorem sb_mod : SBin G Φ .Mod bmod := by
  intro own σ s m trk frz Q E x y x' y' r vx vy p
  unfold bmod at p
  split at p <;> first | exact p.elim | skip
  split at p
  · exact p.elim
  · rename_i hz
    cases vx with | p vx => cases vx; cases vy with | p vy => cases vy; exact mod_int' (by simpa using hz) (p.ret r (.p (.int _ _)))
theorem sb_fdiv : SBin G Φ .FloorDiv bfdiv := by
  intro own σ s m trk frz Q E x y x' y' r vx vy p
  unfold bfdiv at p
  split at p <;> first | exact p.elim | skip
  split at p
  · rename_i hz
    simp only [Bool.and_eq_true, decide_eq_true_eq] at hz
    cases vx with | p vx => cases vx; cases vy with | p vy => cases vy; exact floordiv_int (by omega) (p.ret r (.p (.int _ _))) (.inl (PyProof.noPylong_small (by omega)))
  · exact p.elim
theorem sb_mul (ok : FmOk G Φ d) : SBin G Φ .Mult bmul := by
  intro own σ s m trk frz Q E x y x' y' r vx vy p
  unfold bmul at p
  split at p
  · split at p <;> first | exact p.elim | skip
    rename_i hz
    rw [Bool.and_eq_true] at hz
    cases vx with | p vx => cases vx; cases vy with | p vy => cases vy; exact mul_int (p.ret r (.p (.int _ _))) (.of_left (small_64 hz.1))
  · rename_i a n
    split at p <;> first | exact p.elim | skip
    rename_i hz
    simp only [Bool.and_eq_true] at hz
    have h1 := small_le hz.1.1
    have h2 := okLen_le hz.1.2
    have h3 := okLen_le hz.2
    cases vx with | p vx => cases vx; cases vy with | p vy =>
      cases vy
      refine SB.mul ?_ (fun t' tk => ?_)
      · refine mulOk_of a.length n.toNat (by rw [str_len]; exact Nat.le_refl _) (by omega) (by omega) (by omega) (by omega)
      · rw [txt_mul]; exact p.ret r (.p (.str _ _))
  · split at p <;> first | exact p.elim | skip
    rename_i hl
    split at p <;> first | exact p.elim | skip
    rename_i hz
    rw [Bool.and_eq_true] at hz
    have h1 := small_le hz.1
    have h3 := okLen_le hz.2
    cases vx with | obj ha =>
      obtain ⟨o, ho, hr⟩ := r.obj ha hl
      cases hr with
      | lst hr =>
        rename_i vs n'
        cases vy with | p vy =>
          cases vy
          refine mul_list r.F r.N (r.trkAt ho) (by omega) (by omega) ?_ (fun h' F' N' => ?_)
          · rw [List.size_toArray, ← hr.length]; omega
          · refine newLst_post (n := 0) r (hr.rep _) p F' ?_ (fun p hp => Heap.lt_size (r.N p hp).1)
            have e : ∀ k : Nat, List.foldl (fun x1 x2 => x1 ++ x2) #[] (List.replicate (if vs.toArray.isEmpty = true then 0 else k) vs.toArray) = (rep k vs).toArray := by
              intro k
              split
              · rename_i hz
                have : vs = [] := by simpa using hz
                subst this
                rw [rep_nil]; rfl
              · rw [reps_foldl]; simp
            rw [e] at N'
            exact N'
  · exact p.elim
end
end Mine
namespace Mine
open PySem PySem.W PyProof.Rows PySem.Calls PySem.SeqAt

mutual
theorem PRel.map {an : List Str} {hb hb' : Heap} {frz frz' : Led} (k : ∀ a o, At hb frz a o → At hb' frz' a o) : ∀ {v : PV} {x : Value}, PRel an hb frz v x → PRel an hb' frz' v x
  | _, _, .none => .none
  | _, _, .bool b => .bool b
  | _, _, .int i t => .int i t
  | _, _, .str l t => .str l t
  | _, _, .tup a b c d => .tup (k _ _ a) b c (PRels.map k d)
  | _, _, .lst a b c d => .lst (k _ _ a) b c (PRels.map k d)
  | _, _, .rcd a b c => .rcd (k _ _ a) (k _ _ b) (FRel.map k c)
  | _, _, .top v => .top v
theorem PRels.map {an : List Str} {hb hb' : Heap} {frz frz' : Led} (k : ∀ a o, At hb frz a o → At hb' frz' a o) : ∀ {v : List PV} {x : List Value}, PRels an hb frz v x → PRels an hb' frz' v x
  | _, _, .nil => .nil
  | _, _, .cons a b => .cons (PRel.map k a) (PRels.map k b)
theorem FRel.map {an : List Str} {hb hb' : Heap} {frz frz' : Led} (k : ∀ a o, At hb frz a o → At hb' frz' a o) : ∀ {ns : List Nat} {v : List PV} {x : List DictEntry}, FRel an hb frz ns v x → FRel an hb' frz' ns v x
  | _, _, _, .nil => .nil
  | _, _, _, .cons a b c d => .cons a b (PRel.map k c) (FRel.map k d)
end

theorem at_nil {h : Heap} {a : Addr} {o : Obj} (e : At h [] a o) : h.get? a = some o := e.elim id fun h => nomatch h

theorem eqL_eq : ∀ (a b : List Nat), eqL a b = decide (a = b)
  | [], [] => rfl
  | [], _ :: _ => rfl
  | _ :: _, [] => rfl
  | a :: r, b :: t => by
    unfold eqL
    cases h : Nat.beq a b with
    | true =>
      have := Nat.eq_of_beq_eq_true h
      subst this
      dsimp only
      rw [eqL_eq r t]
      simp
    | false =>
      have : a ≠ b := Nat.ne_of_beq_eq_false h
      simp [this]

section
variable {A : Around} {s : Shared}
theorem eqAt_of {x x' : Value} {b : Bool} (hf : ∀ b t, x ≠ .float b t) (h1 : x = x' → b = true) (h : RcAt A s x x' b) : EqAt A s x x' b := fun prog w E Q hq => by
  unfold eqBool
  refine wpAny_holding ?_
  refine wpAny_ite_split (fun hab => ?_) (fun _ => ?_)
  · rw [h1 (eq_of_beq hab)] at hq
    exact wpAny_bind (wpAny_rule (wpAny_pure hq))
  · cases x <;> first | exact absurd rfl (hf _ _) | exact wpAny_bind (h prog w E _ (wpAny_truthy_bool hq))
end

theorem peqs_all {f : PV → PV → Option Bool} : ∀ {a b : List PV} {r : Bool}, peqs f a b = some r → a.length = b.length → ∃ e : Nat → Bool, (∀ (j : Nat) x y, a[j]? = some x → b[j]? = some y → f x y = some (e j)) ∧ r = (List.range a.length).all e
  | [], [], r, h, _ => ⟨fun _ => true, fun j x y q => (by simp at q), by cases h; rfl⟩
  | x :: a, y :: b, r, h, hl => by
    unfold peqs at h
    split at h
    · cases h
    · rename_i u hu
      split at h
      · rename_i t ht
        cases h
        obtain ⟨e, he, rfl⟩ := peqs_all ht (by simpa using hl)
        refine ⟨fun j => match j with | 0 => u | j + 1 => e j, fun j x' y' q q' => ?_, ?_⟩
        · cases j with
          | zero => cases q; cases q'; exact hu
          | succ j => exact he j x' y' q q'
        · rw [List.length_cons, List.range_succ_eq_map, List.all_cons, List.all_map]
          rfl
      · cases h
  | [], _ :: _, _, _, hl => by simp at hl
  | _ :: _, [], _, _, hl => by simp at hl

/-- the first so many -/
theorem peqs_min {f : PV → PV → Option Bool} : ∀ {a b : List PV} {r : Bool}, peqs f a b = some r → ∃ e : Nat → Bool, (∀ (j : Nat) x y, a[j]? = some x → b[j]? = some y → f x y = some (e j)) ∧ r = ((List.range (min a.length b.length)).all e && a.length == b.length)
  | [], [], r, h => ⟨fun _ => true, fun j x y q => (by simp at q), by cases h; rfl⟩
  | x :: a, y :: b, r, h => by
    unfold peqs at h
    split at h
    · cases h
    · rename_i u hu
      split at h
      · rename_i t ht
        cases h
        obtain ⟨e, he, rfl⟩ := peqs_min ht
        refine ⟨fun j => match j with | 0 => u | j + 1 => e j, fun j x' y' q q' => ?_, ?_⟩
        · cases j with
          | zero => cases q; cases q'; exact hu
          | succ j => exact he j x' y' q q'
        · rw [List.length_cons, List.length_cons, Nat.add_min_add_right, List.range_succ_eq_map, List.all_cons, List.all_map, Bool.and_assoc]
          congr 2
          by_cases q : a.length = b.length <;> simp [q]
      · cases h
  | [], y :: b, r, h => ⟨fun _ => true, fun j x y q => (by simp at q), by cases h; simp⟩
  | x :: a, [], r, h => ⟨fun _ => true, fun j x y q q' => (by simp at q'), by cases h; simp⟩

theorem PRels.get {an : List Str} {hb : Heap} {frz : Led} {l : List PV} {r : List Value} (h : PRels an hb frz l r) {j : Nat} {y : Value} (e : r[j]? = some y) : ∃ v, l[j]? = some v ∧ PRel an hb frz v y := by
  obtain ⟨v, a, b⟩ := h.all2.flip.get e
  exact ⟨v, a, b⟩

theorem PRel.str_inv {an : List Str} {hb : Heap} {frz : Led} {v : PV} {x : Str} {t : Tok} (p : PRel an hb frz v (.str x t)) : (∃ l, v = .str l ∧ x = ⟨l.toArray⟩) ∨ v = .top (.str x t) := by
  cases p with
  | str l => exact .inl ⟨l, rfl, rfl⟩
  | top => exact .inr rfl

theorem peq_same {an : List Str} {h : Heap} : ∀ (n : Nat) {v v' : PV} {x : Value} {b : Bool}, PRel an h [] v x → PRel an h [] v' x → peq n v v' = some b → b = true
  | 0, _, _, _, _, _, _, e => by cases e
  | n + 1, v, v', x, b, p, p', e => by
    unfold peq at e
    cases p with
    | none => cases p' <;> first | (cases e; rfl) | cases e
    | bool c => cases p' <;> first | (cases e; simp) | cases e
    | int i t => cases p' <;> first | (cases e; simp) | cases e
    | str l t =>
      rcases p'.str_inv with ⟨l', rfl, hl⟩ | rfl
      · have : l = l' := by
          have := congrArg (fun v => v.cps.toList) hl
          simpa using this
        subst this
        cases e
        rw [eqL_eq]; simp
      · cases e
    | tup a c d q =>
      rename_i l vs ad o m
      cases p' with
      | tup a' c' d' q' =>
        rename_i l' vs' o' m'
        have ho : o = o' := Option.some.inj ((at_nil a).symm.trans (at_nil a'))
        subst ho
        have hv : vs = vs' := by
          rw [d] at d'
          have := congrArg (fun v => match v with | Data.seq s _ => s.toList | _ => []) d'
          simpa using this
        subst hv
        obtain ⟨e', he', rfl⟩ := peqs_min e
        have hl : l.length = l'.length := q.all2.length.trans q'.all2.length.symm
        rw [Bool.and_eq_true]
        refine ⟨?_, by simp [hl]⟩
        rw [List.all_eq_true]
        intro j hj
        have hj := List.mem_range.mp hj
        obtain ⟨w, hw, hr⟩ := q.all2.get (List.getElem?_eq_getElem (i := j) (by omega))
        obtain ⟨w', hw', hr'⟩ := q'.all2.get (List.getElem?_eq_getElem (i := j) (by omega))
        rw [hw] at hw'
        cases hw'
        exact peq_same n hr hr' (he' j _ _ (List.getElem?_eq_getElem _) (List.getElem?_eq_getElem _))
      | lst a' c' d' q' =>
        have ho := Option.some.inj ((at_nil a).symm.trans (at_nil a'))
        subst ho
        rw [c] at c'; exact absurd (Value.type.inj c') (by decide)
      | rcd a' _ _ => cases e
      | top => cases e
    | lst a c d q =>
      rename_i l vs ad o m
      cases p' with
      | lst a' c' d' q' =>
        rename_i l' vs' o' m'
        have ho : o = o' := Option.some.inj ((at_nil a).symm.trans (at_nil a'))
        subst ho
        have hv : vs = vs' := by
          rw [d] at d'
          have := congrArg (fun v => match v with | Data.seq s _ => s.toList | _ => []) d'
          simpa using this
        subst hv
        have hl : l.length = l'.length := q.all2.length.trans q'.all2.length.symm
        dsimp only at e
        rw [hl, Nat.beq_refl] at e
        obtain ⟨e', he', rfl⟩ := peqs_min e
        rw [Bool.and_eq_true]
        refine ⟨?_, by simp [hl]⟩
        rw [List.all_eq_true]
        intro j hj
        have hj := List.mem_range.mp hj
        obtain ⟨w, hw, hr⟩ := q.all2.get (List.getElem?_eq_getElem (i := j) (by omega))
        obtain ⟨w', hw', hr'⟩ := q'.all2.get (List.getElem?_eq_getElem (i := j) (by omega))
        rw [hw] at hw'
        cases hw'
        exact peq_same n hr hr' (he' j _ _ (List.getElem?_eq_getElem _) (List.getElem?_eq_getElem _))
      | tup a' c' d' q' =>
        have ho := Option.some.inj ((at_nil a).symm.trans (at_nil a'))
        subst ho
        rw [c] at c'; exact absurd (Value.type.inj c') (by decide)
      | rcd a' _ _ => cases e
      | top => cases e
    | rcd a c d => cases v' <;> cases e
    | top => cases v' <;> cases e
end Mine
namespace Mine
open PySem PySem.W PyProof.Rows PySem.Calls PySem.SeqAt

theorem PRel.nofloat {an : List Str} {hb : Heap} {frz : Led} {v : PV} {x : Value} (p : PRel an hb frz v x) (h : ∀ u, v ≠ .top u) : ∀ b t, x ≠ .float b t := by
  cases p <;> first | exact absurd rfl (h _) | (intro _ _ e; cases e)

theorem peq_notop : ∀ (n : Nat) {v v' : PV} {b : Bool}, peq n v v' = some b → ∀ u, v ≠ .top u := by
  intro n v v' b e u hu
  subst hu
  cases n <;> simp [peq] at e

section
variable {an : List Str}
theorem str_beq (a b : List Nat) : ((⟨a.toArray⟩ : Str) == ⟨b.toArray⟩) = eqL a b := by
  rw [eqL_eq]
  by_cases h : a = b
  · subst h; simp
  · have : (⟨a.toArray⟩ : Str) ≠ ⟨b.toArray⟩ := fun e => h (by have := congrArg (fun v => v.cps.toList) e; simpa using this)
    simp [h, this]

/-- what == and != give -/
theorem peq_both : ∀ (n : Nat) {A : Around} {s : Shared} {v v' : PV} {x x' : Value} {b : Bool}, PRel an s.heap [] v x → PRel an s.heap [] v' x' → peq n v v' = some b → A.units + n < cLine → RcAt A s x x' b ∧ RcNeAt A s x x' (!b)
  | 0, _, _, _, _, _, _, _, _, _, e, _ => by cases e
  | n + 1, A, s, v, v', x, x', b, p, p', e, hu => by
    have hu' : A.units < cLine := by omega
    have sub : ∀ {vs vs' : List Value} {l l' : List PV} {e' : Nat → Bool}, PRels an s.heap [] l vs → PRels an s.heap [] l' vs' → (∀ (j : Nat) x y, l[j]? = some x → l'[j]? = some y → peq n x y = some (e' j)) →
        ∀ j (h1 : j < vs.toArray.size) (h2 : j < vs'.toArray.size), EqAt A.in1 s vs.toArray[j] vs'.toArray[j] (e' j) := by
      intro vs vs' l l' e' q q' he j h1 h2
      simp only [List.size_toArray] at h1 h2
      obtain ⟨w, hw, hr⟩ := q.get (List.getElem?_eq_getElem h1)
      obtain ⟨w', hw', hr'⟩ := q'.get (List.getElem?_eq_getElem h2)
      have hp := he j w w' hw hw'
      simp only [List.getElem_toArray]
      refine eqAt_of (hr.nofloat (peq_notop n hp)) (fun hx => ?_) (peq_both n hr hr' hp (by show A.units + 1 + n < _; omega)).1
      rw [← hx] at hr'
      exact peq_same n hr hr' hp
    unfold peq at e
    cases p with
    | none =>
      cases p' <;> simp only [Option.some.injEq, reduceCtorEq] at e <;> subst e
      · exact ⟨RcAt.none_none, RcNeAt.none_none⟩
      · exact ⟨RcAt.none_bool _, RcNeAt.none_bool _⟩
      · exact ⟨RcAt.none_int _ _, RcNeAt.none_int _ _⟩
      · exact ⟨RcAt.none_str _ _, RcNeAt.none_str _ _⟩
      · rename_i a c d q; exact ⟨RcAt.none_tuple ⟨_, at_nil a, c, _, d⟩ hu', RcNeAt.none_tuple ⟨_, at_nil a, c, _, d⟩ hu'⟩
      · rename_i a c d q; exact ⟨RcAt.none_list ⟨_, at_nil a, c, _, d⟩ hu', RcNeAt.none_list ⟨_, at_nil a, c, _, d⟩ hu'⟩
    | bool c =>
      cases p' <;> simp only [Option.some.injEq, reduceCtorEq] at e <;> subst e
      · exact ⟨RcAt.bool_none _, RcNeAt.bool_none _⟩
      · exact ⟨RcAt.bool_bool _ _, RcNeAt.bool_bool _ _⟩
      · exact ⟨RcAt.bool_str _ _ _, RcNeAt.bool_str _ _ _⟩
    | int i t =>
      cases p' <;> simp only [Option.some.injEq, reduceCtorEq] at e <;> subst e
      · exact ⟨RcAt.int_none _ _, RcNeAt.int_none _ _⟩
      · exact ⟨RcAt.int_int _ _ _ _, RcNeAt.int_int _ _ _ _⟩
      · exact ⟨RcAt.int_str _ _ _ _, RcNeAt.int_str _ _ _ _⟩
    | str l t =>
      cases p' <;> simp only [Option.some.injEq, reduceCtorEq] at e <;> subst e
      · exact ⟨RcAt.str_none _ _, RcNeAt.str_none _ _⟩
      · exact ⟨RcAt.str_bool _ _ _, RcNeAt.str_bool _ _ _⟩
      · exact ⟨RcAt.str_int _ _ _ _, RcNeAt.str_int _ _ _ _⟩
      · rw [← str_beq]; exact ⟨RcAt.str_str _ _ _ _, RcNeAt.str_str _ _ _ _⟩
      · rename_i a c d q; exact ⟨RcAt.str_tuple _ _ ⟨_, at_nil a, c, _, d⟩ hu', RcNeAt.str_tuple _ _ ⟨_, at_nil a, c, _, d⟩ hu'⟩
    | tup a c d q =>
      cases p' <;> simp only [Option.some.injEq, reduceCtorEq] at e
      · subst e; exact ⟨RcAt.tuple_none ⟨_, at_nil a, c, _, d⟩ hu', RcNeAt.tuple_none ⟨_, at_nil a, c, _, d⟩ hu'⟩
      · subst e; exact ⟨RcAt.tuple_str _ _ ⟨_, at_nil a, c, _, d⟩ hu', RcNeAt.tuple_str _ _ ⟨_, at_nil a, c, _, d⟩ hu'⟩
      · rename_i a' c' d' q'
        obtain ⟨e', he', rfl⟩ := peqs_min e
        have h1 := RcAt.tuples ⟨_, at_nil a, c, _, d⟩ ⟨_, at_nil a', c', _, d'⟩ hu' (sub q q' he')
        have h2 := RcNeAt.tuples ⟨_, at_nil a, c, _, d⟩ ⟨_, at_nil a', c', _, d'⟩ hu' (sub q q' he')
        simp only [List.size_toArray, ← q.all2.length, ← q'.all2.length] at h1 h2
        exact ⟨h1, h2⟩
    | lst a c d q =>
      cases p' <;> simp only [Option.some.injEq, reduceCtorEq] at e
      · subst e; exact ⟨RcAt.list_none ⟨_, at_nil a, c, _, d⟩ hu', RcNeAt.list_none ⟨_, at_nil a, c, _, d⟩ hu'⟩
      · rename_i a' c' d' q'
        have e1 := q.all2.length
        have e2 := q'.all2.length
        split at e
        · rename_i hl
          have hl := Nat.eq_of_beq_eq_true hl
          obtain ⟨e', he', rfl⟩ := peqs_all e hl
          have h1 := RcAt.lists ⟨_, at_nil a, c, _, d⟩ ⟨_, at_nil a', c', _, d'⟩ (by simp only [List.size_toArray]; omega) hu' (sub q q' he')
          have h2 := RcNeAt.lists ⟨_, at_nil a, c, _, d⟩ ⟨_, at_nil a', c', _, d'⟩ (by simp only [List.size_toArray]; omega) hu' (sub q q' he')
          simp only [List.size_toArray, ← e1] at h1 h2
          exact ⟨h1, h2⟩
        · rename_i hl
          have hl := Nat.ne_of_beq_eq_false hl
          cases e
          have hs : ∀ vs vs' : List Value, vs.length ≠ vs'.length → (vs.toArray.size != vs'.toArray.size) = true := fun vs vs' h => by simpa using h
          exact ⟨RcAt.lists_lengths ⟨_, at_nil a, c, _, d⟩ ⟨_, at_nil a', c', _, d'⟩ (hs _ _ (by omega)) hu', RcNeAt.lists_lengths ⟨_, at_nil a, c, _, d⟩ ⟨_, at_nil a', c', _, d'⟩ (hs _ _ (by omega)) hu'⟩
    | rcd a c d => cases v' <;> cases e
    | top => cases v' <;> cases e
end

section
variable {G : Gl} {Φ : Fm} {d : Nat} {own : Led} {σ : St} {h h' : Heap} {m : Str → Option Value} {trk frz : Led} {s : Shared} {E : Value → Shared → Prop}

theorem snapL_all2 {f : AV → Option PV} : ∀ {l : List AV} {r : List PV}, snapL f l = some r → All2 (fun a b => f a = some b) l r
  | [], r, e => by cases e; exact .nil
  | a :: l, r, e => by
    unfold snapL at e
    split at e
    · cases e
    · rename_i x hx
      split at e
      · rename_i t ht; cases e; exact .cons hx (snapL_all2 ht)
      · cases e

theorem snap_at (ok : FmOk G Φ d) (r : Re G Φ own σ h m trk frz) : ∀ (n : Nat) {x : AV} {x' : Value} {v : PV}, VR G (trk.map (·.1)) frz x x' → snap σ n x = some v → PRel G.an h [] v x' := by
  intro n
  induction n with
  | zero =>
    intro x x' v vx e
    cases vx with
    | p q => cases e; exact q.map fun a o k => .inl (r.at ok k)
    | _ => cases e
  | succ n ih =>
    intro x x' v vx e
    cases vx with
    | p q => cases e; exact q.map fun a o k => .inl (r.at ok k)
    | obj ha =>
      unfold snap at e
      split at e
      · rename_i l q
        split at e
        · rename_i l' hl
          cases e
          obtain ⟨o, ho, hr⟩ := r.obj ha q
          cases hr with
          | lst hr =>
            refine .lst (.inl (r.trkAt ho)) rfl rfl (PRels.of ?_)
            have h2 := snapL_all2 hl
            clear hl q ho
            induction hr generalizing l' with
            | nil => cases h2; exact .nil
            | cons hv _ ih2 => cases h2 with | cons hx h2 => exact .cons (ih hv hx) (ih2 _ h2)
        · cases e
      · cases e
    | ins _ _ => cases e

theorem units_A (ok : FmOk G Φ d) : Φ.A.units + 20 < cLine := by
  have := ok.un
  show Φ.A₀.units + 3 + 20 < cLine
  omega

def SCmp (G : Gl) (Φ : Fm) (op : CmpOp) (f : AV → AV → St → Option Bool) : Prop := ∀ own σ s m trk frz x y x' y' b Q E, Re G Φ own σ s.heap m trk frz → VR G (trk.map (·.1)) frz x x' → VR G (trk.map (·.1)) frz y y' →
  f x y σ = some b → (∀ tk, Q (.bool b) { s with toks := tk }) → wpAny (model G.prog G.w) Φ.A (compareOp op x' y') Q E s

theorem ceq_inv {x y : AV} {b : Bool} (h : ceq x y σ = some b) : ∃ v w, snap σ 6 x = some v ∧ snap σ 6 y = some w ∧ peq 12 v w = some b := by
  unfold ceq at h
  split at h
  · rename_i v w hv hw; exact ⟨v, w, hv, hw, h⟩
  · cases h
theorem sc_eq (ok : FmOk G Φ d) : SCmp G Φ .Eq ceq := by
  intro own σ s m trk frz x y x' y' b Q E r vx vy e q
  obtain ⟨v, w, hv, hw, he⟩ := ceq_inv e
  have := units_A ok
  exact (peq_both 12 (snap_at ok r 6 vx hv) (snap_at ok r 6 vy hw) he (by omega)).1 _ _ _ _ (q s.toks)
theorem sc_ne (ok : FmOk G Φ d) : SCmp G Φ .NotEq (fun x y σ => match ceq x y σ with | some r => some (!r) | none => none) := by
  intro own σ s m trk frz x y x' y' b Q E r vx vy e q
  dsimp only at e
  split at e
  · rename_i c hc
    cases e
    obtain ⟨v, w, hv, hw, he⟩ := ceq_inv hc
    have := units_A ok
    exact (peq_both 12 (snap_at ok r 6 vx hv) (snap_at ok r 6 vy hw) he (by omega)).2 _ _ _ _ (q s.toks)
  · cases e
theorem sc_int {op : CmpOp} {o : Cop} (hop : ∀ (a b : Int) (t u : Tok) (k : Bool) (s : Shared) (Q : Value → Shared → Prop) (E : Value → Shared → Prop), cmpI o a b = some k → Q (.bool k) s → wpAny (model G.prog G.w) Φ.A (compareOp op (.int a t) (.int b u)) Q E s) :
    SCmp G Φ op (fun x y _ => match x, y with | .p (.int a), .p (.int b) => cmpI o a b | _, _ => none) := by
  intro own σ s m trk frz x y x' y' b Q E r vx vy e q
  dsimp only at e
  split at e
  · cases vx with | p vx => cases vx; cases vy with | p vy => cases vy; exact hop _ _ _ _ _ _ _ _ e (q s.toks)
  · cases e

theorem anyEq_some {f : PV → Option Bool} : ∀ {l : List PV} {b : Bool}, anyEq f l = some b → ∃ e : Nat → Bool, (∀ (j : Nat) x, l[j]? = some x → f x = some (e j)) ∧ b = (List.range l.length).any e
  | [], b, h => by cases h; exact ⟨fun _ => true, fun j x q => (by simp at q), rfl⟩
  | x :: l, b, h => by
    unfold anyEq at h
    split at h
    · cases h
    · rename_i u hu
      split at h
      · rename_i t ht
        cases h
        obtain ⟨e, he, rfl⟩ := anyEq_some ht
        refine ⟨fun j => match j with | 0 => u | j + 1 => e j, fun j x' q => ?_, ?_⟩
        · cases j with
          | zero => cases q; exact hu
          | succ j => exact he j x' q
        · rw [List.length_cons, List.range_succ_eq_map, List.any_cons, List.any_map]
          rfl
      · cases h
end
end Mine
namespace Mine
open PySem PySem.W PyProof.Rows PySem.Calls PySem.SeqAt

theorem preL_iff : ∀ (x y : List Nat), preL x y = true ↔ x.length ≤ y.length ∧ y.take x.length = x
  | [], y => by simp [preL]
  | a :: r, [] => by simp [preL]
  | a :: r, b :: t => by
    unfold preL
    cases h : Nat.beq a b with
    | true =>
      have := Nat.eq_of_beq_eq_true h
      subst this
      dsimp only
      rw [preL_iff r t]
      simp
    | false =>
      have := Nat.ne_of_beq_eq_false h
      simp only [Bool.false_eq_true, List.length_cons, List.take_succ_cons, List.cons.injEq, false_iff, not_and]
      intro _ e
      exact absurd e.symm this
theorem subL_iff (x : List Nat) : ∀ y : List Nat, subL x y = true ↔ ∃ i, i + x.length ≤ y.length ∧ (y.drop i).take x.length = x
  | [] => by
    unfold subL
    rw [preL_iff]
    constructor
    · rintro ⟨h, e⟩; exact ⟨0, by simpa using h, by simpa using e⟩
    · rintro ⟨i, h, e⟩
      simp only [List.length_nil, Nat.le_zero] at h
      have h0 : x.length = 0 := by omega
      have : x = [] := List.length_eq_zero_iff.mp h0
      subst this
      simp
  | b :: t => by
    unfold subL
    rw [Bool.or_eq_true, preL_iff, subL_iff x t]
    constructor
    · rintro (⟨h, e⟩ | ⟨i, h, e⟩)
      · exact ⟨0, by simpa using h, by simpa using e⟩
      · exact ⟨i + 1, by simp only [List.length_cons]; omega, by simpa using e⟩
    · rintro ⟨i, h, e⟩
      cases i with
      | zero => exact .inl ⟨by simpa using h, by simpa using e⟩
      | succ i => exact .inr ⟨i, by simp only [List.length_cons] at h; omega, by simpa using e⟩
theorem contains_subL (x y : List Nat) : Txt.contains ⟨x.toArray⟩ ⟨y.toArray⟩ = subL y x := by
  have h1 : Txt.contains ⟨x.toArray⟩ ⟨y.toArray⟩ = true ↔ subL y x = true := by
    unfold Txt.contains
    rw [StrLaws.found_iff, subL_iff]
    simp only [StrLaws.subAt_eq, str_len, beq_iff_eq]
  cases q : subL y x with
  | true => exact h1.mpr q
  | false =>
    cases q' : Txt.contains ⟨x.toArray⟩ ⟨y.toArray⟩ with
    | false => rfl
    | true => rw [h1.mp q'] at q; cases q

theorem PRel.int_inv {an : List Str} {hb : Heap} {frz : Led} {v : PV} {x : Int} {t : Tok} (p : PRel an hb frz v (.int x t)) : v = .int x ∨ v = .top (.int x t) := by
  cases p with
  | int => exact .inl rfl
  | top => exact .inr rfl
theorem PRel.bool_inv {an : List Str} {hb : Heap} {frz : Led} {v : PV} {x : Bool} (p : PRel an hb frz v (.bool x)) : v = .bool x ∨ v = .top (.bool x) := by
  cases p with
  | bool => exact .inl rfl
  | top => exact .inr rfl
theorem PRel.none_inv {an : List Str} {hb : Heap} {frz : Led} {v : PV} (p : PRel an hb frz v .none) : v = .none ∨ v = .top .none := by
  cases p with
  | none => exact .inl rfl
  | top => exact .inr rfl

theorem seqs_fun {an : List Str} {h : Heap} {f : PV → PV → Option Bool} {l l' k : List PV} {vs : List Value} {b c : Bool} (ih : ∀ {u u' v : PV} {x : Value} {b c : Bool}, PRel an h [] u x → PRel an h [] u' x → f u v = some b → f u' v = some c → b = c)
    (q : PRels an h [] l vs) (q' : PRels an h [] l' vs) (e : peqs f l k = some b) (e' : peqs f l' k = some c) : b = c := by
  obtain ⟨g, hg, rfl⟩ := peqs_min e
  obtain ⟨g', hg', rfl⟩ := peqs_min e'
  have hl : l.length = l'.length := q.all2.length.trans q'.all2.length.symm
  rw [hl]
  congr 1
  apply Bool.eq_iff_iff.mpr
  rw [List.all_eq_true, List.all_eq_true]
  have key : ∀ j, j < min l'.length k.length → g j = g' j := by
    intro j hj
    obtain ⟨w, hw, hr⟩ := q.all2.get (List.getElem?_eq_getElem (i := j) (by omega))
    obtain ⟨w', hw', hr'⟩ := q'.all2.get (List.getElem?_eq_getElem (i := j) (by omega))
    rw [hw] at hw'
    cases hw'
    exact ih hr hr' (hg j _ _ (List.getElem?_eq_getElem _) (List.getElem?_eq_getElem (by omega))) (hg' j _ _ (List.getElem?_eq_getElem _) (List.getElem?_eq_getElem (by omega)))
  constructor
  · intro a j hj; rw [← key j (List.mem_range.mp hj)]; exact a j hj
  · intro a j hj; rw [key j (List.mem_range.mp hj)]; exact a j hj

theorem peq_fun {an : List Str} {h : Heap} : ∀ (n : Nat) {u u' v : PV} {x : Value} {b c : Bool}, PRel an h [] u x → PRel an h [] u' x → peq n u v = some b → peq n u' v = some c → b = c
  | 0, _, _, _, _, _, _, _, _, e, _ => by cases e
  | n + 1, u, u', v, x, b, c, p, p', e, e' => by
    have ht := peq_notop _ e'
    cases p with
    | none => rcases p'.none_inv with rfl | rfl <;> first | exact absurd rfl (ht _) | (rw [e] at e'; exact Option.some.inj e')
    | bool => rcases p'.bool_inv with rfl | rfl <;> first | exact absurd rfl (ht _) | (rw [e] at e'; exact Option.some.inj e')
    | int => rcases p'.int_inv with rfl | rfl <;> first | exact absurd rfl (ht _) | (rw [e] at e'; exact Option.some.inj e')
    | str l t =>
      rcases p'.str_inv with ⟨l', rfl, hl⟩ | rfl
      · have : l = l' := by
          have := congrArg (fun v => v.cps.toList) hl
          simpa using this
        subst this
        rw [e] at e'; exact Option.some.inj e'
      · exact absurd rfl (ht _)
    | tup a k d q =>
      rename_i l vs ad o m
      cases p' with
      | tup a' k' d' q' =>
        rename_i l' vs' o' m'
        have ho : o = o' := Option.some.inj ((at_nil a).symm.trans (at_nil a'))
        subst ho
        have hv : vs = vs' := by
          rw [d] at d'
          have := congrArg (fun v => match v with | Data.seq s _ => s.toList | _ => []) d'
          simpa using this
        subst hv
        cases v <;> simp only [peq, Option.some.injEq, reduceCtorEq] at e e'
        · rw [← e, ← e']
        · rw [← e, ← e']
        · exact seqs_fun (f := peq n) (fun a b c d => peq_fun n a b c d) q q' e e'
      | lst a' k' d' q' =>
        have ho := Option.some.inj ((at_nil a).symm.trans (at_nil a'))
        subst ho
        rw [k] at k'; exact absurd (Value.type.inj k') (by decide)
      | rcd a' _ _ => cases v <;> cases e'
      | top => exact absurd rfl (ht _)
    | lst a k d q =>
      rename_i l vs ad o m
      cases p' with
      | lst a' k' d' q' =>
        rename_i l' vs' o' m'
        have ho : o = o' := Option.some.inj ((at_nil a).symm.trans (at_nil a'))
        subst ho
        have hv : vs = vs' := by
          rw [d] at d'
          have := congrArg (fun v => match v with | Data.seq s _ => s.toList | _ => []) d'
          simpa using this
        subst hv
        have hl : l.length = l'.length := q.all2.length.trans q'.all2.length.symm
        cases v <;> simp only [peq, Option.some.injEq, reduceCtorEq] at e e'
        · rw [← e, ← e']
        · rw [hl] at e
          split at e
          · rename_i z; rw [z] at e'; exact seqs_fun (f := peq n) (fun a b c d => peq_fun n a b c d) q q' e e'
          · rename_i z; rw [z] at e'; cases e; cases e'; rfl
      | tup a' k' d' q' =>
        have ho := Option.some.inj ((at_nil a).symm.trans (at_nil a'))
        subst ho
        rw [k] at k'; exact absurd (Value.type.inj k') (by decide)
      | rcd a' _ _ => cases v <;> cases e'
      | top => exact absurd rfl (ht _)
    | rcd a _ _ => cases v <;> cases e
    | top => cases v <;> cases e

section
variable {G : Gl} {Φ : Fm} {d : Nat} {own : Led} {σ : St} {h h' : Heap} {m : Str → Option Value} {trk frz : Led} {s : Shared} {E : Value → Shared → Prop}

theorem any_range {e : Nat → Bool} {f : Value → Bool} : ∀ {vs : List Value}, (∀ (j : Nat) y, vs[j]? = some y → e j = f y) → (List.range vs.length).any e = vs.any f
  | [], _ => rfl
  | y :: vs, h => by
    rw [List.length_cons, List.range_succ_eq_map, List.any_cons, List.any_map, List.any_cons, h 0 y rfl]
    congr 1
    exact any_range fun j z q => h (j + 1) z q

theorem anyEq_arr {an : List Str} {n : Nat} {l : List PV} {vs : List Value} {v : PV} {x : Value} {b : Bool} {A : Around} (q : PRels an s.heap [] l vs) (p : PRel an s.heap [] v x) (e : anyEq (fun u => peq n u v) l = some b) (hu : A.units + n < cLine) :
    ∃ f : Value → Bool, (∀ y, y ∈ vs.toArray → EqAt A s y x (f y)) ∧ b = vs.toArray.any f := by
  classical
  obtain ⟨e', he', rfl⟩ := anyEq_some e
  let f : Value → Bool := fun y => decide (∃ u, PRel an s.heap [] u y ∧ peq n u v = some true)
  have hf : ∀ (j : Nat) y, vs[j]? = some y → e' j = f y := by
    intro j y hj
    obtain ⟨u, hu', hr⟩ := q.get hj
    have hp := he' j u hu'
    cases hc : e' j with
    | true => rw [hc] at hp; exact (decide_eq_true ⟨u, hr, hp⟩).symm
    | false =>
      rw [hc] at hp
      refine (decide_eq_false fun ⟨u₂, h1, h2⟩ => ?_).symm
      have := peq_fun n hr h1 hp h2
      cases this
  refine ⟨f, fun y hy => ?_, ?_⟩
  · obtain ⟨j, hj⟩ := List.getElem?_of_mem (List.mem_toArray.mp hy)
    obtain ⟨u, hu', hr⟩ := q.get hj
    have hp := he' j u hu'
    rw [hf j y hj] at hp
    exact eqAt_of (hr.nofloat (peq_notop n hp)) (fun hx => by rw [← hx] at p; exact peq_same n hr p hp) (peq_both n hr p hp hu).1
  · rw [List.any_toArray, q.all2.length]
    exact any_range hf

theorem cin_inv {x y : AV} {b : Bool} (e : cin x y σ = some b) : (∃ u v, x = .p (.str u) ∧ y = .p (.str v) ∧ b = subL u v) ∨
    (∃ v l, snap σ 6 x = some v ∧ (snap σ 6 y = some (.lst l) ∨ snap σ 6 y = some (.tup l)) ∧ anyEq (fun u => peq 12 u v) l = some b) := by
  unfold cin at e
  split at e
  · cases e; exact .inl ⟨_, _, rfl, rfl, rfl⟩
  · split at e
    · rename_i v l h1 h2; exact .inr ⟨v, l, h1, .inl h2, e⟩
    · rename_i v l h1 h2; exact .inr ⟨v, l, h1, .inr h2, e⟩
    · cases e

theorem sc_in (ok : FmOk G Φ d) : SCmp G Φ .In cin := by
  intro own σ s m trk frz x y x' y' b Q E r vx vy e q
  rcases cin_inv e with ⟨u, v, rfl, rfl, rfl⟩ | ⟨v, l, h1, h2, h3⟩
  · cases vx with | p vx => cases vx; cases vy with | p vy => cases vy; exact SB.contains (by rw [contains_subL]; exact q s.toks)
  · have hx := snap_at ok r 6 vx h1
    have := units_A ok
    rcases h2 with h2 | h2
    · cases snap_at ok r 6 vy h2 with
      | lst a c d ps =>
        obtain ⟨f, hf, rfl⟩ := anyEq_arr (A := Φ.A.in1) ps hx h3 (by show Φ.A.units + 1 + 12 < _; omega)
        exact in_listAt f ⟨_, at_nil a, c, _, d⟩ hf (q s.toks)
    · cases snap_at ok r 6 vy h2 with
      | tup a c d ps =>
        obtain ⟨f, hf, rfl⟩ := anyEq_arr (A := Φ.A.in1) ps hx h3 (by show Φ.A.units + 1 + 12 < _; omega)
        exact in_tupleAt f ⟨_, at_nil a, c, _, d⟩ hf (q s.toks)
theorem sc_notin (ok : FmOk G Φ d) : SCmp G Φ .NotIn (fun x y σ => match cin x y σ with | some r => some (!r) | none => none) := by
  intro own σ s m trk frz x y x' y' b Q E r vx vy e q
  dsimp only at e
  split at e <;> cases e
  rename_i b e
  rcases cin_inv e with ⟨u, v, rfl, rfl, rfl⟩ | ⟨v, l, h1, h2, h3⟩
  · cases vx with | p vx => cases vx; cases vy with | p vy => cases vy; exact SB.notContains (by rw [contains_subL]; exact q s.toks)
  · have hx := snap_at ok r 6 vx h1
    have := units_A ok
    rcases h2 with h2 | h2
    · cases snap_at ok r 6 vy h2 with
      | lst a c d ps =>
        obtain ⟨f, hf, rfl⟩ := anyEq_arr (A := Φ.A.in1) ps hx h3 (by show Φ.A.units + 1 + 12 < _; omega)
        exact notIn_listAt f ⟨_, at_nil a, c, _, d⟩ hf (q s.toks)
    · cases snap_at ok r 6 vy h2 with
      | tup a c d ps =>
        obtain ⟨f, hf, rfl⟩ := anyEq_arr (A := Φ.A.in1) ps hx h3 (by show Φ.A.units + 1 + 12 < _; omega)
        exact notIn_tupleAt f ⟨_, at_nil a, c, _, d⟩ hf (q s.toks)

theorem cis_inv {ι : List Addr} {frz : Led} {x y : AV} {x' y' : Value} {b : Bool} (vx : VR G ι frz x x') (vy : VR G ι frz y y') (e : cis x y = some b) : plainIs x' y' = true ∧ (x' == y') = b := by
  unfold cis at e
  split at e <;> cases e
  all_goals (cases vx; first | (rename_i vx; cases vx) | skip)
  all_goals (cases vy; first | (rename_i vy; cases vy) | skip)
  all_goals exact ⟨rfl, by first | rfl | simp⟩
theorem sc_is : SCmp G Φ .Is (fun x y _ => cis x y) := by
  intro own σ s m trk frz x y x' y' b Q E r vx vy e q
  obtain ⟨h1, h2⟩ := cis_inv vx vy e
  exact wpAny_is_plain h1 (by rw [h2]; exact q s.toks)
theorem sc_isnot : SCmp G Φ .IsNot (fun x y _ => match cis x y with | some r => some (!r) | none => none) := by
  intro own σ s m trk frz x y x' y' b Q E r vx vy e q
  dsimp only at e
  split at e <;> cases e
  rename_i b e
  obtain ⟨h1, h2⟩ := cis_inv vx vy e
  exact wpAny_isNot_plain h1 (by rw [h2]; exact q s.toks)

theorem s_truth (ok : FmOk G Φ d) {x : AV} {x' : Value} {b : Bool} {Q : Bool → Shared → Prop} (r : Re G Φ own σ s.heap m trk frz) (vx : VR G (trk.map (·.1)) frz x x') (e : truth x σ = some b) (q : ∀ tk, Q b { s with toks := tk }) :
    wpAny (model G.prog G.w) Φ.A (truthy x') Q E s := by
  unfold truth at e
  split at e
  · cases e; cases vx with | p vx => cases vx; exact truthy_none (q s.toks)
  · cases e; cases vx with | p vx => cases vx; exact wpAny_truthy_bool (q s.toks)
  · cases e; cases vx with | p vx => cases vx; exact truthy_int (q s.toks)
  · rename_i l
    split at e <;> cases e
    rename_i hl
    have hl := okLen_le hl
    cases vx with | p vx =>
      cases vx
      refine P.truthy_str (by rw [str_len]; omega) ?_
      have : (((⟨l.toArray⟩ : Str).length : Int) != 0) = !l.isEmpty := by
        rw [str_len]
        cases l with
        | nil => rfl
        | cons a t => simp only [List.length_cons, List.isEmpty_cons, Bool.not_false, bne_iff_ne, ne_eq]; omega
      rw [this]; exact q _
  · split at e
    · rename_i l hl
      split at e <;> cases e
      rename_i hn
      have hn := okLen_le hn
      cases vx with | obj ha =>
        obtain ⟨o, ho, hr⟩ := r.obj ha hl
        cases hr with
        | lst hr =>
          have hlen := hr.length
          refine wpAny_truthy_list ⟨_, r.trkAt ho, rfl, _, rfl⟩ (by simp only [List.size_toArray]; omega) ?_
          rename_i vs n
          have : (!vs.toArray.isEmpty) = !l.isEmpty := by
            cases l with
            | nil => cases vs with | nil => rfl | cons => simp at hlen
            | cons => cases vs with | nil => simp at hlen | cons => rfl
          rw [this]; exact q _
    · cases e
  · cases e
end
end Mine
namespace Mine
open PySem PySem.W PyProof.Rows PySem.Calls PySem.SeqAt

theorem isTrue_of_cmp {M : Model} {A : Around} {E : Value → Shared → Prop} {s : Shared} {env : Env} {l r : Expr} {op : CmpOp} {pos : Pos} {whole : Sem Value} {Q : Bool → Shared → Prop}
    (h : wpAny M A (eval (.Compare l [op] [r] pos) env) (fun v s₁ => wpAny M A (truthy v) Q E s₁) E s) : wpAny M A (isTrue (.Compare l [op] [r] pos) env whole) Q E s := fun Γ p hΓ => by
  have h' := Sem.wp_mono M Γ _ (post' := fun c p' s' => Sem.wp M Γ (truthy c) (fun a _ s' => Q a s') (fun e _ s' => E e s') p' s') (fun c p' s' (hc : wpAny M A (truthy c) Q E s') => hc Γ p' hΓ) (fun _ _ _ x => x) p s (h Γ p hΓ)
  simp only [isTrue_Compare1, Sem.wp_bind', Sem.wp_holding, Sem.wp_cmd_standAt, Sem.wp_operate]
  simp only [eval_Compare1, Sem.wp_bind', Sem.wp_holding, Sem.wp_cmd_standAt, Sem.wp_operate] at h'
  exact h'

section
variable {c : CC}
theorem Cm.marks {e : Expr} {x : Ex} (h : Cm c e x) (op : CmpOp) : behindInMarks op e = false := by cases h <;> rfl
theorem Cm.star {e : Expr} {x : Ex} (h : Cm c e x) (l : List Expr) (env : Env) : starEach (e :: l) env = (false, eval e env) :: starEach l env := by cases h <;> rfl
theorem Cm.swaps {e : Expr} {x : Ex} (h : Cm c e x) (t : Option Expr) (n : Nat) (env : Env) : swapsWith e t n env = pure false := by cases h <;> rfl
theorem Cm.fold {e : Expr} {x : Ex} (h : Cm c e x) (env : Env) (v : Value) : foldedSetIterable e env v = pure v := by cases h <;> rfl
end

section
variable {G : Gl} {Φ : Fm} {d : Nat} {own : Led} {σ : St} {h h' : Heap} {m : Str → Option Value} {trk frz : Led} {s : Shared} {E : Value → Shared → Prop} {c : CC}

theorem sx_cmp {a b : Expr} {op : CmpOp} {pos : Pos} {f : AV → AV → St → Option Bool} {ra rb : St → Out AV} (hm : behindInMarks op b = false) (ha : SEx G Φ a ra) (hb : SEx G Φ b rb) (ho : SCmp G Φ op f) :
    SEx G Φ (.Compare a [op] [b] pos) (fun σ => (ra σ).bind fun x σ => (rb σ).bind fun y σ => (match f x y σ with | some r => .ok (.p (.bool r)) σ | none => .stuck)) := by
  intro own σ s m trk frz Q E r p
  refine wpAny_Compare1 (ha own σ s m trk frz _ E r (p.bind fun x σ₁ x' h₁ tk₁ trk₁ frz₁ _ r₁ e₁ f₁ v₁ p₁ => ?_)) hm
  refine hb own σ₁ _ m trk₁ frz₁ _ E r₁ (p₁.bind fun y σ₂ y' h₂ tk₂ trk₂ frz₂ _ r₂ e₂ f₂ v₂ p₂ => ?_)
  split at p₂
  · rename_i k hk
    exact ho own σ₂ _ m trk₂ frz₂ x y x' y' k Q E r₂ (v₁.mono e₂ f₂) v₂ hk fun tk => p₂.ret r₂ (.p (.bool k))
  · exact p₂.elim

theorem sx_not {a : Expr} {pos : Pos} {ra : St → Out AV} (ok : FmOk G Φ d) (ha : SEx G Φ a ra) : SEx G Φ (.UnaryOp .Not a pos) (fun σ => (ra σ).bind fun x σ => (match truth x σ with | some r => .ok (.p (.bool (!r))) σ | none => .stuck)) := by
  intro own σ s m trk frz Q E r p
  refine UnaryOp_ (ha own σ s m trk frz _ E r (p.bind fun x σ₁ x' h₁ tk₁ trk₁ frz₁ _ r₁ e₁ f₁ v₁ p₁ => ?_))
  split at p₁
  · rename_i k hk
    exact not_of (s_truth ok r₁ v₁ hk fun tk => p₁.ret r₁ (.p (.bool _)))
  · exact p₁.elim
theorem sx_neg {a : Expr} {pos : Pos} {ra : St → Out AV} (ha : SEx G Φ a ra) : SEx G Φ (.UnaryOp .USub a pos) (fun σ => (ra σ).bind fun x σ => (match x with | .p (.int i) => .ok (.p (.int (-i))) σ | _ => .stuck)) := by
  intro own σ s m trk frz Q E r p
  refine UnaryOp_ (ha own σ s m trk frz _ E r (p.bind fun x σ₁ x' h₁ tk₁ trk₁ frz₁ _ r₁ e₁ f₁ v₁ p₁ => ?_))
  split at p₁
  · cases v₁ with | p v₁ => cases v₁; exact neg_int (p₁.ret r₁ (.p (.int _ _)))
  · exact p₁.elim

theorem sx_and {a b : Expr} {rest : List Expr} {pos : Pos} {ra rb : St → Out AV} (ok : FmOk G Φ d) (ha : SEx G Φ a ra) (hb : SEx G Φ (.BoolOp .And (b :: rest) pos) rb) :
    SEx G Φ (.BoolOp .And (a :: b :: rest) pos) (fun σ => (ra σ).bind fun x σ => (match truth x σ with | some true => rb σ | some false => .ok x σ | none => .stuck)) := by
  intro own σ s m trk frz Q E r p
  refine BoolOp_and (ha own σ s m trk frz _ E r (p.bind fun x σ₁ x' h₁ tk₁ trk₁ frz₁ _ r₁ e₁ f₁ v₁ p₁ => ?_))
  split at p₁
  · rename_i hk; exact s_truth ok r₁ v₁ hk fun tk => hb own σ₁ _ m trk₁ frz₁ Q E r₁ (Post.later p₁ (List.prefix_refl _) fun _ q => q)
  · rename_i hk; exact s_truth ok r₁ v₁ hk fun tk => p₁.ret r₁ v₁
  · exact p₁.elim
theorem sx_or {a b : Expr} {rest : List Expr} {pos : Pos} {ra rb : St → Out AV} (ok : FmOk G Φ d) (ha : SEx G Φ a ra) (hb : SEx G Φ (.BoolOp .Or (b :: rest) pos) rb) :
    SEx G Φ (.BoolOp .Or (a :: b :: rest) pos) (fun σ => (ra σ).bind fun x σ => (match truth x σ with | some true => .ok x σ | some false => rb σ | none => .stuck)) := by
  intro own σ s m trk frz Q E r p
  refine BoolOp_or (ha own σ s m trk frz _ E r (p.bind fun x σ₁ x' h₁ tk₁ trk₁ frz₁ _ r₁ e₁ f₁ v₁ p₁ => ?_))
  split at p₁
  · rename_i hk; exact s_truth ok r₁ v₁ hk fun tk => p₁.ret r₁ v₁
  · rename_i hk; exact s_truth ok r₁ v₁ hk fun tk => hb own σ₁ _ m trk₁ frz₁ Q E r₁ (Post.later p₁ (List.prefix_refl _) fun _ q => q)
  · exact p₁.elim
theorem sx_one {a : Expr} {op : BoolOp} {pos : Pos} {ra : St → Out AV} (ha : SEx G Φ a ra) : SEx G Φ (.BoolOp op [a] pos) ra := fun own σ s m trk frz Q E r p => BoolOp_one (ha own σ s m trk frz Q E r p)
theorem sx_ite {t a b : Expr} {pos : Pos} {rt : St → Out Bool} {ra rb : St → Out AV} (ht : STs G Φ t rt) (ha : SEx G Φ a ra) (hb : SEx G Φ b rb) :
    SEx G Φ (.IfExp t a b pos) (fun σ => (rt σ).bind fun r σ => match r with | true => ra σ | false => rb σ) := by
  intro own σ s m trk frz Q E r p
  refine IfExp_ (ht own σ s m trk frz _ E r (p.bind fun x σ₁ x' h₁ tk₁ trk₁ frz₁ _ r₁ e₁ f₁ v₁ p₁ => ?_))
  subst v₁
  cases x with
  | true => exact ha own σ₁ _ m trk₁ frz₁ Q E r₁ p₁
  | false => exact hb own σ₁ _ m trk₁ frz₁ Q E r₁ p₁

theorem st_not {a : Expr} {pos : Pos} {ra : St → Out Bool} (ha : STs G Φ a ra) : STs G Φ (.UnaryOp .Not a pos) (fun σ => (ra σ).bind fun r σ => .ok (!r) σ) := by
  intro own σ s m trk frz Q E r p
  refine isTrue_not (ha own σ s m trk frz _ E r (p.bind fun x σ₁ x' h₁ tk₁ trk₁ frz₁ _ r₁ e₁ f₁ v₁ p₁ => ?_))
  subst v₁
  exact p₁.ret0 r₁ rfl
theorem st_and {a : Expr} {rest : List Expr} {pos : Pos} {ra rb : St → Out Bool} (ha : STs G Φ a ra) (hb : ∀ whole own σ s m trk frz Q E, Re G Φ own σ s.heap m trk frz → Post BR G Φ own m trk frz s (rb σ) Q E → wpAny (model G.prog G.w) Φ.A (isTrue (.BoolOp .And rest pos) Φ.env whole) Q E s) (whole : Sem Value) :
    ∀ own σ s m trk frz Q E, Re G Φ own σ s.heap m trk frz → Post BR G Φ own m trk frz s ((ra σ).bind fun r σ => match r with | true => rb σ | false => .ok false σ) Q E → wpAny (model G.prog G.w) Φ.A (isTrue (.BoolOp .And (a :: rest) pos) Φ.env whole) Q E s := by
  intro own σ s m trk frz Q E r p
  refine isTrue_and (ha own σ s m trk frz _ E r (p.bind fun x σ₁ x' h₁ tk₁ trk₁ frz₁ _ r₁ e₁ f₁ v₁ p₁ => ?_))
  subst v₁
  cases x with
  | true => exact hb whole own σ₁ _ m trk₁ frz₁ Q E r₁ p₁
  | false => exact p₁.ret0 r₁ rfl
theorem st_or {a : Expr} {rest : List Expr} {pos : Pos} {ra rb : St → Out Bool} (ha : STs G Φ a ra) (hb : ∀ whole own σ s m trk frz Q E, Re G Φ own σ s.heap m trk frz → Post BR G Φ own m trk frz s (rb σ) Q E → wpAny (model G.prog G.w) Φ.A (isTrue (.BoolOp .Or rest pos) Φ.env whole) Q E s) (whole : Sem Value) :
    ∀ own σ s m trk frz Q E, Re G Φ own σ s.heap m trk frz → Post BR G Φ own m trk frz s ((ra σ).bind fun r σ => match r with | true => .ok true σ | false => rb σ) Q E → wpAny (model G.prog G.w) Φ.A (isTrue (.BoolOp .Or (a :: rest) pos) Φ.env whole) Q E s := by
  intro own σ s m trk frz Q E r p
  refine isTrue_or (ha own σ s m trk frz _ E r (p.bind fun x σ₁ x' h₁ tk₁ trk₁ frz₁ _ r₁ e₁ f₁ v₁ p₁ => ?_))
  subst v₁
  cases x with
  | true => exact p₁.ret0 r₁ rfl
  | false => exact hb whole own σ₁ _ m trk₁ frz₁ Q E r₁ p₁

theorem st_plain {e : Expr} {re : St → Out AV} (ok : FmOk G Φ d) (he : SEx G Φ e re) (hi : ∀ (Q : Bool → Shared → Prop) E s, wpAny (model G.prog G.w) Φ.A (eval e Φ.env) (fun v s₁ => wpAny (model G.prog G.w) Φ.A (truthy v) Q E s₁) E s → wpAny (model G.prog G.w) Φ.A (isTrue e Φ.env (eval e Φ.env)) Q E s) :
    STs G Φ e (fun σ => (re σ).bind fun v σ => (match truth v σ with | some r => .ok r σ | none => .stuck)) := by
  intro own σ s m trk frz Q E r p
  refine hi Q E s (he own σ s m trk frz _ E r (p.bind fun x σ₁ x' h₁ tk₁ trk₁ frz₁ _ r₁ e₁ f₁ v₁ p₁ => ?_))
  split at p₁
  · rename_i k hk; exact s_truth ok r₁ v₁ hk fun tk => p₁.ret r₁ rfl
  · exact p₁.elim

theorem sxs_nil : SExs G Φ [] (fun σ => .ok [] σ) := fun pos own σ s m trk frz Q E r p => spliced_nil (p.ret0 r .nil)
theorem sxs_cons {e : Expr} {l : List Expr} {re : St → Out AV} {rl : St → Out (List AV)} (hs : starEach (e :: l) Φ.env = (false, eval e Φ.env) :: starEach l Φ.env) (he : SEx G Φ e re) (hl : SExs G Φ l rl) :
    SExs G Φ (e :: l) (fun σ => (re σ).bind fun v σ => (rl σ).bind fun vs σ => .ok (v :: vs) σ) := by
  intro pos own σ s m trk frz Q E r p
  rw [hs]
  refine spliced_cons (he own σ s m trk frz _ E r (p.bind fun x σ₁ x' h₁ tk₁ trk₁ frz₁ _ r₁ e₁ f₁ v₁ p₁ => ?_))
  refine hl pos own σ₁ _ m trk₁ frz₁ _ E r₁ (p₁.bind fun y σ₂ y' h₂ tk₂ trk₂ frz₂ _ r₂ e₂ f₂ v₂ p₂ => ?_)
  exact p₂.ret0 r₂ (.cons (v₁.mono e₂ f₂) v₂)

theorem pure_all2 {l : List AV} {ps : List PV} {vs : List Value} {ι : List Addr} {frz : Led} (h : All2 (VR G ι frz) l vs) (e : l.mapM pOf = some ps) : PRels G.an G.hb frz ps vs := by
  have h2 := mapM_all2 e
  clear e
  induction h generalizing ps with
  | nil => cases h2; exact .nil
  | cons hv _ ih =>
    cases h2 with
    | cons hx h2 =>
      cases hv with
      | p hv => cases hx; exact .cons hv (ih h2)
      | obj _ => cases hx
      | ins _ _ => cases hx

theorem mapM_length {α β : Type} {f : α → Option β} {l : List α} {r : List β} (h : l.mapM f = some r) : l.length = r.length := (mapM_all2 h).length

theorem sx_tup {l : List Expr} {k : Nat} {pos : Pos} {rl : St → Out (List AV)} (hl : SExs G Φ l rl) :
    SEx G Φ (.Tuple l k pos) (fun σ => (rl σ).bind fun vs σ => (match vs.mapM pOf with | some ps => (match okLen ps.length with | true => .ok (.p (.tup ps)) σ | false => .stuck) | none => .stuck)) := by
  intro own σ s m trk frz Q E r p
  refine Tuple_ (hl pos own σ s m trk frz _ E r (p.bind fun x σ₁ x' h₁ tk₁ trk₁ frz₁ _ r₁ e₁ f₁ v₁ p₁ => ?_))
  split at p₁
  · rename_i ps hps
    split at p₁
    · rename_i hz
      have hz := okLen_le hz
      have hq := pure_all2 v₁ hps
      refine newTuple_N r₁.F r₁.N (fun h' F' N' => ?_) ?_
      · have r₂ := r₁.pushF F' N' (fun p hp => Heap.lt_size (r₁.N p hp).1)
        exact p₁ _ h' _ trk₁ _ r₂ (List.prefix_refl _) (fun _ q => .tail _ q) (.p (.tup (.inr (.head _)) rfl rfl (hq.mono fun _ q => .tail _ q)))
      · have e1 := v₁.length
        have e2 := mapM_length hps
        rw [sizeLine_eq]; omega
    · exact p₁.elim
  · exact p₁.elim
theorem sx_lst {l : List Expr} {pos : Pos} {rl : St → Out (List AV)} (hl : SExs G Φ l rl) : SEx G Φ (.List l pos) (fun σ => (rl σ).bind fun vs σ => newLst vs σ) := by
  intro own σ s m trk frz Q E r p
  refine List_ (hl pos own σ s m trk frz _ E r (p.bind fun x σ₁ x' h₁ tk₁ trk₁ frz₁ _ r₁ e₁ f₁ v₁ p₁ => ?_))
  have hlen : okLen x.length = true := by
    unfold newLst at p₁
    split at p₁
    · assumption
    · exact p₁.elim
  have hlen := okLen_le hlen
  have e1 := v₁.length
  exact newList_K r₁.F r₁.N (fun l h' F' N' hl => newLst_post (n := 0) r₁ v₁ p₁ F' N' hl) (by rw [sizeLine_eq]; omega)

theorem seqIdx {k : Int} {n : Nat} (h0 : 0 ≤ k) (h1 : k.toNat < n) : seqIndex? k n = some k.toNat := by
  unfold seqIndex?
  have h2 : ¬ k < 0 := by omega
  have h3 : k < (n : Int) := by omega
  simp [h2, h0, h3]

theorem idx_inv {x y v : AV} (e : idxOf σ x y = some v) : ∃ k, y = .p (.int k) ∧ 0 ≤ k ∧ k < 1000000 ∧ ((∃ l c, x = .p (.str l) ∧ l[k.toNat]? = some c ∧ v = .p (.str [c])) ∨ ∃ l, itemsOf σ x = some l ∧ l[k.toNat]? = some v) := by
  unfold idxOf at e
  split at e
  · rename_i k
    split at e
    · rename_i hk
      unfold okInt at hk
      simp only [Bool.and_eq_true, decide_eq_true_eq] at hk
      refine ⟨k, rfl, hk.1, hk.2, ?_⟩
      split at e
      · split at e
        · rename_i q; cases e; exact .inl ⟨_, _, rfl, q, rfl⟩
        · cases e
      · split at e
        · rename_i l q; exact .inr ⟨l, q, e⟩
        · cases e
    · cases e
  · cases e

theorem sx_idx {a b : Expr} {y : Ex} {pos : Pos} {ra rb : St → Out AV} (ok : FmOk G Φ d) (hc : Cm c b y) (ha : SEx G Φ a ra) (hb : SEx G Φ b rb) :
    SEx G Φ (.Subscript a b pos) (fun σ => (ra σ).bind fun x σ => (rb σ).bind fun y σ => (match idxOf σ x y with | some v => .ok v σ | none => .stuck)) := by
  intro own σ s m trk frz Q E r p
  refine Subscript_ (ha own σ s m trk frz _ E r (p.bind fun x σ₁ x' h₁ tk₁ trk₁ frz₁ _ r₁ e₁ f₁ v₁ p₁ => ?_))
  refine hb own σ₁ _ m trk₁ frz₁ _ E r₁ (p₁.bind fun y σ₂ y' h₂ tk₂ trk₂ frz₂ _ r₂ e₂ f₂ v₂ p₂ => ?_)
  split at p₂
  · rename_i v hv
    obtain ⟨k, rfl, h0, h1, hv⟩ := idx_inv hv
    cases v₂ with | p v₂ =>
      cases v₂ with | int _ t =>
      have hs : ∀ (o : Value), subscripted b false o (.int k t) = operate [o, .int k t] (getItem o (.int k t)) := by intro o; cases hc <;> rfl
      rcases hv with ⟨l, ch, rfl, hl, rfl⟩ | ⟨l, hl, hv⟩
      · cases v₁ with | p v₁ =>
          cases v₁
          have hlt := (List.getElem?_eq_some_iff.mp hl).1
          refine tail_any (typeIs_str _ _ _) slot_str_getitem.lookup (PyProof.Rows.getItem_str (c := ch) ?_ ?_ (p₂.ret r₂ (.p (.str [ch] _)))) (hs _)
          · simp only [Bool.or_eq_false_iff, decide_eq_false_iff_not]; omega
          · rw [str_len, seqIdx h0 (by omega)]
            simpa using hl
      · obtain ⟨ad, vs, rfl, hvs, hseq⟩ := seq_at ok r₂ (v₁.mono e₂ f₂) hl
        obtain ⟨w, hw, hr⟩ := hvs.get hv
        have hk : k.toNat < vs.length := (List.getElem?_eq_some_iff.mp hw).1
        rcases hseq with hseq | hseq
        · exact tail_any hseq.typeIs slot_list_getitem.lookup (wpAny_getItem_list hseq h0 (by omega) (by simpa using hw) (p₂.ret0 r₂ hr)) (hs _)
        · refine tail_any hseq.typeIs slot_tuple_getitem.lookup (getItem_tuple (j := k.toNat) hseq (by omega) (by omega) ?_ (by simpa using hw) (p₂.ret0 r₂ hr)) (hs _)
          exact seqIdx h0 (by simp only [List.size_toArray]; omega)
  · exact p₂.elim
end
end Mine
namespace Mine
open PySem PySem.W PyProof.Rows PySem.Calls PySem.SeqAt

inductive FlR (G : Gl) (ι : List Addr) (frz : Led) : Fl → Flow → Prop where
  | next : FlR G ι frz .next .next
  | brk : FlR G ι frz .brk .brk
  | cont : FlR G ι frz .cont .cont
  | ret {v : AV} {v' : Value} : VR G ι frz v v' → FlR G ι frz (.ret v) (.ret v')

def PostS (G : Gl) (Φ : Fm) (own : Led) (fb : Nat) (trk frz : Led) (s : Shared) (o : Out Fl) (Q : Flow → Shared → Prop) (E : Value → Shared → Prop) : Prop := match o with
  | .ok a σ' => ∀ b h' tk' m' trk' frz', Re G Φ own σ' h' m' trk' frz' → (trk.map (·.1)).take fb <+: trk'.map (·.1) → (∀ q ∈ frz, q ∈ frz') → FlR G (trk'.map (·.1)) frz' a b → Q b { s with heap := h', toks := tk' }
  | .exc x σ' => ∀ e h' tk' m' trk' frz', XCore G Φ own x σ' m' trk' frz' e h' → (trk.map (·.1)).take fb <+: trk'.map (·.1) → (∀ q ∈ frz, q ∈ frz') → E (.ref e) { s with heap := h', toks := tk' }
  | .stuck => False

def SSts (G : Gl) (Φ : Fm) (l : List Stmt) (r : St → Out Fl) : Prop := ∀ own σ s m trk frz Q E, Re G Φ own σ s.heap m trk frz → PostS G Φ own σ.fb trk frz s (r σ) Q E → wpAny (model G.prog G.w) Φ.A (execs l Φ.env) Q E s
def SSt (G : Gl) (Φ : Fm) (l : Stmt) (r : St → Out Fl) : Prop := ∀ own σ s m trk frz Q E, Re G Φ own σ s.heap m trk frz → PostS G Φ own σ.fb trk frz s (r σ) Q E → wpAny (model G.prog G.w) Φ.A (exec l Φ.env) Q E s

def Fm.cc (Φ : Fm) (G : Gl) : CC := ⟨G.K, Φ.scope, Φ.ns, G.an⟩

structure FnW (G : Gl) (f : Nat) (fd : Fd) where
  name : Str
  qual : Str
  params : Arguments
  body : List Stmt
  scope : Scope
  dV : Value
  kV : Value
  doc : Value
  pm : Value
  cdv : Value
  ct : Value
  oc : Value
  an : Option Addr
  od : Option Addr
  osl : Array (Option Value)
  ns : List Str
structure FnOk (G : Gl) (f : Nat) (fd : Fd) (W : FnW G f fd) : Prop where
  at_ : G.K.lookup f = some ⟨W.oc, W.od, .func (fnOf W.name W.qual W.params W.body W.scope W.dV W.kV W.doc W.pm W.an W.cdv W.ct), W.osl⟩
  code : codeIn G.K W.cdv W.qual = true
  bind : ∀ vals : List Value, vals.length = fd.npar → bindArgs (fnOf W.name W.qual W.params W.body W.scope W.dV W.kV W.doc W.pm W.an W.cdv W.ct) ⟨vals, []⟩ = pure ((W.ns.take fd.npar).zip vals)
  kind : W.scope.kind = .function
  co : W.scope.isCoroutine = false
  gen : W.scope.isGenerator = false
  cell : ∀ x ∈ W.scope.names, x.2 ≠ .cell
  loc : ∀ x ∈ W.ns.take fd.npar, W.scope.names.lookup x = some .local
  len : W.ns.length = fd.nloc
  nd : W.ns.Nodup
  par : fd.npar ≤ fd.nloc
  cts : Cts ⟨G.K, W.scope, W.ns, G.an⟩ W.body fd.body
def FnsOk (G : Gl) (P : Prg) : Prop := ∀ f fd, lookN f P.fns = some fd → ∃ W : FnW G f fd, FnOk G f fd W

def SCl (G : Gl) (d : Nat) (r : Nat → List AV → St → Out AV) : Prop := ∀ (Φ : Fm) (d₀ : Nat) (A : Around), FmOk G Φ d₀ → A.frames = some (Φ.env :: Φ.outer) → A.depth + d < recursionLimit → A.units + 20 * (d + 1) < cLine → A.handled = none →
  ∀ f vs vs' own σ s m trk frz R, Re G Φ own σ s.heap m trk frz → All2 (VR G (trk.map (·.1)) frz) vs vs' → Post (VR G) G Φ own m trk frz s (r f vs σ) (fun v s' => R (.ok (.ret v)) s') (fun e s' => R (.error e) s') → codeAny (model G.prog G.w) A (.call (.ref f) ⟨vs', []⟩) R s

section
variable {G : Gl} {Φ : Fm} {d : Nat} {own : Led} {σ : St} {h h' : Heap} {m : Str → Option Value} {trk frz : Led} {s : Shared} {E : Value → Shared → Prop} {c : CC}

theorem lookup_none {ns : List Str} {vs : List Value} {x : Str} (h : x ∉ ns) : (ns.zip vs).reverse.lookup x = none := by
  rw [List.lookup_eq_none_iff]
  intro p hp
  rw [List.mem_reverse] at hp
  have := (List.of_mem_zip hp).1
  simp only [bne_iff_ne, ne_eq]
  first | exact fun e => h (e ▸ this) | (intro e; exact h (e ▸ this))

theorem lookup_zip : ∀ {ns : List Str} {vs : List Value} {i : Nat} {x : Str} {v : Value}, ns.Nodup → ns[i]? = some x → vs[i]? = some v → (ns.zip vs).reverse.lookup x = some v := by
  intro ns vs i x v nd hx hv
  have key : ∀ {l : List (Str × Value)}, (l.map (·.1)).Nodup → (x, v) ∈ l → l.lookup x = some v := by
    intro l
    induction l with
    | nil => intro _ h; cases h
    | cons p l ih =>
      intro nd hm
      rw [List.lookup_cons]
      rw [List.map_cons, List.nodup_cons] at nd
      rcases List.mem_cons.mp hm with rfl | hm
      · simp
      · have : (x == p.1) = false := by
          rw [beq_eq_false_iff_ne]
          intro e
          exact nd.1 (e ▸ List.mem_map_of_mem (f := (·.1)) hm)
        rw [this]
        exact ih nd.2 hm
  refine key ?_ ?_
  · rw [List.map_reverse, (List.reverse_perm _).nodup_iff]
    have hsub : ∀ (ns : List Str) (vs : List Value), ((ns.zip vs).map (·.1)).Sublist ns := by
      intro ns
      induction ns with
      | nil => intro vs; simp
      | cons a ns ih =>
        intro vs
        cases vs with
        | nil => simp
        | cons b vs => rw [List.zip_cons_cons, List.map_cons]; exact (ih vs).cons₂ _
    exact nd.sublist (hsub ns vs)
  · rw [List.mem_reverse]
    exact List.mem_of_getElem? (i := i) (by rw [List.getElem?_zip_eq_some]; exact ⟨hx, hv⟩)
theorem lo_args {ns : List Str} {vs : List AV} {vs' : List Value} {n k : Nat} {ι : List Addr} (hv : All2 (VR G ι frz) vs vs') (hn : vs.length = n) (nd : ns.Nodup) (hl : n ≤ ns.length) :
    ∀ (i : Nat) (v : AV), (vs.map some ++ List.replicate k none)[i]? = some (some v) → ∃ x v', ns[i]? = some x ∧ ((ns.take n).zip vs').reverse.lookup x = some v' ∧ VR G ι frz v v' := by
  intro i v e
  have hi : i < vs.length := by
    apply Nat.lt_of_not_le
    intro hle
    rw [List.getElem?_append_right (by simpa using hle), List.getElem?_replicate] at e
    split at e <;> cases e
  rw [List.getElem?_append_left (by simpa using hi), List.getElem?_map] at e
  have e' : vs[i]? = some v := by
    cases q : vs[i]? with
    | none => rw [q] at e; cases e
    | some w => rw [q] at e; cases e; rfl
  obtain ⟨v', hv', hr⟩ := hv.get e'
  have hx : ns[i]? = some ns[i] := List.getElem?_eq_getElem (by omega)
  refine ⟨_, v', hx, lookup_zip (i := i) ?_ ?_ hv', hr⟩
  · exact nd.sublist (List.take_sublist _ _)
  · rw [List.getElem?_take_of_lt (by omega)]; exact hx

theorem bd_take_self {n : Nat} (r : Re G Φ own σ h m trk frz) : (trk.map (·.1)).take σ.hp.length = trk.map (·.1) := List.take_of_length_le (by simp [r.len])

theorem Re.loBd (r : Re G Φ own σ h m trk frz) : obds σ.lo ≤ σ.hp.length := by
  rw [obds_le]
  intro v hv
  obtain ⟨i, hi⟩ := List.getElem?_of_mem hv
  obtain ⟨_, _, _, _, hr⟩ := r.lo i v hi
  have := hr.bd_le
  rw [List.length_map, ← r.len] at this
  exact this

/-- the caller's state behind a call -/
theorem Re.back {Φ' : Fm} {σ' : St} {m' : Str → Option Value} {trk' frz' : Led} (r : Re G Φ own σ h m trk frz) (r' : Re G Φ' own σ' h' m' trk' frz') (F : Fr Φ.h₀ Φ.L h' m) (N : News Φ.h₀ Φ.L h' (trk' ++ (frz' ++ own)))
    (hp : trk.map (·.1) <+: trk'.map (·.1)) (hf : ∀ q ∈ frz, q ∈ frz') : Re G Φ own ⟨σ'.hp, σ'.hw, σ.fb, σ.lo⟩ h' m trk' frz' := by
  refine ⟨F, N, r'.nd, r'.hp, r'.bd, r'.hw, fun i v e => ?_, ?_⟩
  · obtain ⟨x, v', a, b, q⟩ := r.lo i v e
    exact ⟨x, v', a, b, q.mono hp hf⟩
  · have h1 := r.fb
    have h2 := r.len
    have h3 := r'.len
    have h4 := hp.length_le
    simp only [List.length_map] at h4
    show σ.fb ≤ σ'.hp.length
    omega

/-- one object kept behind a cut -/
theorem Re.pick {n j : Nat} {o : AO} (r : Re G Φ own σ h m trk frz) (h1 : σ.fb ≤ n) (h2 : σ.hw ≤ n) (h3 : obds σ.lo ≤ n) (hj : n ≤ j) (hn : n ≤ σ.hp.length) (e : σ.hp[j]? = some o) (hb : o.bd ≤ n) :
    ∃ p, trk[j]? = some p ∧ Re G Φ own { σ with hp := σ.hp.take n ++ [o] } h m (trk.take n ++ [p]) frz := by
  obtain ⟨p, hp, ho⟩ := r.hp.get e
  have rc := r.cut h1 h2 h3
  refine ⟨p, hp, r.F, newsSub r.N fun q hq => ?_, ?_, ?_, fun k a q => ?_, ?_, fun i v q => ?_, ?_⟩
  · rcases List.mem_append.mp hq with hq | hq
    · rcases List.mem_append.mp hq with hq | hq
      · exact List.mem_append_left _ (List.mem_of_mem_take hq)
      · rw [List.mem_singleton.mp hq]; exact List.mem_append_left _ (List.mem_of_getElem? hp)
    · exact List.mem_append_right _ hq
  · refine List.Nodup.sublist ?_ r.nd
    refine List.Sublist.map _ (List.Sublist.append ?_ (List.Sublist.refl _))
    have hs : [p].Sublist (trk.drop n) := by
      rw [List.singleton_sublist]
      refine List.mem_of_getElem? (i := j - n) ?_
      rw [List.getElem?_drop]
      have : n + (j - n) = j := by omega
      rw [this]; exact hp
    have := (List.Sublist.refl (trk.take n)).append hs
    rwa [List.take_append_drop] at this
  · have hι : (trk.take n).map (·.1) <+: (trk.take n ++ [p]).map (·.1) := ⟨[p.1], by simp⟩
    refine All2.append (rc.hp.mono fun a b q => q.mono hι fun _ h => h) (.cons ?_ .nil)
    have := ho.take hb
    rw [← List.map_take] at this
    exact this.mono hι fun _ h => h
  · dsimp only at q ⊢
    rw [List.getElem?_append] at q
    split at q
    · exact rc.bd k a q
    · rename_i hk
      have : a = o := by
        cases z : k - (List.take n σ.hp).length with
        | zero => rw [z] at q; cases q; rfl
        | succ n => rw [z] at q; cases q
      subst this
      have hl : (List.take n σ.hp).length = n := by simp; omega
      exact Nat.le_trans hb (Nat.le_trans (by omega) (Nat.le_max_left _ _))
  · have := rc.hw
    simp only [List.length_append] at *
    omega
  · obtain ⟨x, v', a, b, c⟩ := rc.lo i v q
    exact ⟨x, v', a, b, c.mono ⟨[p.1], by simp⟩ fun _ h => h⟩
  · have := rc.fb
    simp only [List.length_append] at *
    omega
end
end Mine
namespace Mine
open PySem PySem.W PyProof.Rows PySem.Calls PySem.SeqAt

section
variable {G : Gl} {Φ : Fm} {d : Nat} {own : Led} {σ : St} {h h' : Heap} {m : Str → Option Value} {trk frz : Led} {s : Shared} {E : Value → Shared → Prop} {c : CC}

theorem take_prefix {l r : List Addr} (h : l <+: r) : r.take l.length = l := by
  obtain ⟨t, rfl⟩ := h
  simp

theorem ret_post {Φ' : Fm} {σ' : St} {m' : Str → Option Value} {trk' frz' : Led} {v : AV} {v' : Value} {Q : Value → Shared → Prop} {tk : Nat} (r : Re G Φ own σ s.heap m trk frz) (r' : Re G Φ' own σ' h' m' trk' frz') (F : Fr Φ.h₀ Φ.L h' m) (N : News Φ.h₀ Φ.L h' (trk' ++ (frz' ++ own)))
    (hp : trk.map (·.1) <+: trk'.map (·.1)) (hf : ∀ q ∈ frz, q ∈ frz') (hv : VR G (trk'.map (·.1)) frz' v v') (p : Post (VR G) G Φ own m trk frz s (retSt σ.hp.length σ.fb σ.lo v σ') Q E) : Q v' { s with heap := h', toks := tk } := by
  have rb := r.back r' F N hp hf
  have hcut : (trk'.take σ.hp.length).map (·.1) = trk.map (·.1) := by
    rw [List.map_take, r.len]
    have := take_prefix hp
    rwa [List.length_map] at this
  have hle : σ.hp.length ≤ σ'.hp.length := by
    have := hp.length_le
    simp only [List.length_map] at this
    rw [r.len, r'.len]; exact this
  unfold retSt at p
  split at p
  · exact p v' h' tk trk' frz' rb hp hf hv
  · rename_i hw
    have hw := Nat.le_of_ble_eq_true hw
    have rc := rb.cut (n := σ.hp.length) r.fb hw r.loBd
    have pre : trk.map (·.1) <+: (trk'.take σ.hp.length).map (·.1) := by rw [hcut]; exact List.prefix_refl _
    split at p
    · cases hv with | p hv => exact p v' h' tk _ frz' rc pre hf (.p hv)
    · rename_i j
      split at p
      · rename_i hj
        have hj := Nat.le_of_ble_eq_true hj
        have hv' := hv.take (n := σ.hp.length) hj
        rw [← List.map_take] at hv'
        exact p v' h' tk _ frz' rc pre hf hv'
      · rename_i hj
        have hj := X.blt_false hj
        split at p
        · rename_i o ho
          split at p
          · rename_i hb
            have hb := Nat.le_of_ble_eq_true hb
            obtain ⟨q, hq, rk⟩ := rb.pick (n := σ.hp.length) r.fb hw r.loBd hj hle ho hb
            refine p v' h' tk _ frz' rk ?_ hf ?_
            · rw [List.map_append, hcut]; exact ⟨[q.1], rfl⟩
            · cases hv with | obj hv =>
                rw [List.getElem?_map, hq] at hv
                cases hv
                refine .obj ?_
                rw [List.map_append, hcut, List.getElem?_append_right (by rw [List.length_map, r.len]; exact Nat.le_refl _)]
                simp [r.len]
          · exact p v' h' tk trk' frz' rb hp hf hv
        · exact p.elim
    · rename_i C j
      split at p
      · rename_i hj
        have hj := Nat.le_of_ble_eq_true hj
        have hv' := hv.take (n := σ.hp.length) hj
        rw [← List.map_take] at hv'
        exact p v' h' tk _ frz' rc pre hf hv'
      · exact p v' h' tk trk' frz' rb hp hf hv

theorem scall_step {P : Prg} {ih : Nat → Ev} (hfn : FnsOk G P) (hs : ∀ Φ, FmOk G Φ d → ∀ l xs, Cts (Φ.cc G) l xs → SSts G Φ l ((ih d).sts xs)) : SCl G (d + 1) (callStep P ih (d + 1)) := by
  intro Φ d₀ A ok hA hdp hun hh f vs vs' own σ s m trk frz R r hv p
  rw [callStep] at p
  split at p
  · exact p.elim
  · rename_i fd hfd
    obtain ⟨W, w⟩ := hfn f fd hfd
    split at p
    · exact p.elim
    · rename_i hlen
      have hlen := Nat.eq_of_beq_eq_true hlen
      have hlen' : vs'.length = fd.npar := by rw [← hv.length]; exact hlen
      refine code_def ok.B r.F ok.X r.N ok.T hA rfl ok.fn w.at_ w.code (by omega) (BindsTo.of_eq (w.bind vs' hlen')) ?_ (fun g L' h₁ FG F' N' B' X' T' => ?_) w.co w.gen w.kind w.cell
      · intro y hy
        exact w.loc y.1 (List.of_mem_zip hy).1
      · have ok' : FmOk G ⟨A, Φ.base, g, Φ.env :: Φ.outer, L', f, W.qual, W.scope, W.cdv, W.ns⟩ d :=
          ⟨B', X', T', fun b o e => FG.keep b o (ok.kb b o e), ok.Kb, w.kind, by show A.depth + 1 + d < _; omega, by show A.units + 3 + 20 * (d + 1) < _; omega, hh, w.nd⟩
        have r₁ : Re G ⟨A, Φ.base, g, Φ.env :: Φ.outer, L', f, W.qual, W.scope, W.cdv, W.ns⟩ own ⟨σ.hp, σ.hw, σ.hp.length, vs.map some ++ List.replicate (fd.nloc - fd.npar) none⟩ h₁ (fun y => ((W.ns.take fd.npar).zip vs').reverse.lookup y) trk frz :=
          ⟨F', N', r.nd, r.hp, r.bd, r.hw, lo_args hv hlen w.nd (by rw [w.len]; exact w.par), Nat.le_refl _⟩
        refine hs _ ok' W.body fd.body w.cts own _ _ _ trk frz _ _ r₁ ?_
        revert p
        generalize (ih d).sts fd.body ⟨σ.hp, σ.hw, σ.hp.length, vs.map some ++ List.replicate (fd.nloc - fd.npar) none⟩ = o
        intro p
        cases o with
        | ok fl σ' =>
          intro fl' h' tk' m' trk' frz' r' hp hf hfl
          have hp' : trk.map (·.1) <+: trk'.map (·.1) := by rw [← bd_take_self (n := 0) r]; exact hp
          refine ⟨L', m', trk' ++ (frz' ++ own), r'.F, r'.N, fun F N => ?_⟩
          refine ret_post (s := s) (v := flVal fl) r r' F N hp' hf ?_ p
          cases hfl with
          | ret hv => exact hv
          | _ => exact .p .none
        | exc x σ' => exact fun e h' tk' m' trk' frz' x _ _ => x.elim
        | stuck => exact p.elim

theorem wp_call_of {f : Nat} {vs' : List Value} {Q : Value → Shared → Prop} {A : Around} (h : codeAny (model G.prog G.w) A (.call (.ref f) ⟨vs', []⟩) (fun r s' => match r with | .ok (.ret v) => Q v s' | .ok _ => False | .error e => E e s') s) :
    wpAny (model G.prog G.w) A (call (.ref f) vs') Q E s := wpAny_call h

theorem nostar {args : List Expr} {l : List Ex} (hc : Cms c args l) (pos : Pos) (env : Env) : (backTo pos (starEach args env)).any (·.1) = false := by
  induction args generalizing l with
  | nil => rfl
  | cons a args ih =>
    cases hc with
    | cons ha hc =>
      rw [ha.star]
      show (false || (backTo pos (starEach args env)).any (·.1)) = false
      rw [ih hc]; rfl
theorem args_of {M : Model} {A : Around} {args : List Expr} {l : List Ex} (hc : Cms c args l) {pos : Pos} {env : Env} {f : Value} {Q : Args → Shared → Prop} (h : wpAny M A (spliced (backTo pos (starEach args env))) (fun vs s' => Q ⟨vs, []⟩ s') E s) :
    wpAny M A (evalArgs f true (backTo pos (starEach args env)) []) Q E s := by
  cases hc with
  | nil =>
    unfold evalArgs
    show wpAny M A (spliced [] >>= _) Q E s
    refine wpAny_bind (wpAny_mono h (fun vs s' h' => wpAny_bind (wpAny_pure ?_)) fun _ _ x => x)
    refine wpAny_holding ?_
    exact wpAny_bind (wpAny_pure (wpAny_bind (wpAny_pure (wpAny_pure h'))))
  | cons ha hc =>
    rw [ha.star] at h ⊢
    exact evalArgs_plain h

theorem sx_callf {x : Str} {fp pos : Pos} {args : List Expr} {l : List Ex} {f : Nat} {rl : St → Out (List AV)} {rc : Nat → List AV → St → Out AV} (ok : FmOk G Φ d) (hk : Φ.scope.names.lookup x = some .globalImplicit) (hd : (x == ("__debug__" : Str)) = false) (hv : nsIn G.K mainGlobals x = some (some (.ref f))) (hkp : keepIn G.K (.ref f) = true)
    (hc : Cms c args l) (hl : SExs G Φ args rl) (hr : SCl G d rc) : SEx G Φ (.Call (.Name x fp) args [] pos) (fun σ => (rl σ).bind fun vs σ => rc f vs σ) := by
  intro own σ s m trk frz Q E r p
  show wpAny _ _ (eval (.Name x fp) Φ.env >>= fun g => callWith pos g [] (backTo pos (starEach args Φ.env)) []) Q E s
  refine wpAny_bind (name_K r.F ok.X (topRead_of ok.T) hv ?_ ok.fn hk hd)
  have dp := ok.dp
  have un := ok.un
  refine callWith_of (P := fun h => G.K.In h) (by rw [nostar hc]; rfl) (keeps_K hkp) (args_of hc (hl pos own σ s m trk frz _ E r (p.bind fun vs σ₁ vs' h₁ tk₁ trk₁ frz₁ _ r₁ e₁ f₁ v₁ p₁ => ⟨ok.X.keeps r₁.F.keep, ?_⟩)))
  refine wpAny_call (hr Φ d Φ.A ok (Around.frames_deeper ok.B.stack) dp (by show Φ.A₀.units + 3 + 20 * (d + 1) < _; exact un) ok.hd f vs vs' own σ₁ _ m trk₁ frz₁ _ r₁ v₁ ?_)
  revert p₁
  generalize rc f vs σ₁ = o
  intro p₁
  cases o with
  | ok a σ' => exact p₁
  | exc a σ' => exact p₁
  | stuck => exact p₁
end
end Mine
namespace Mine
open PySem PySem.W PyProof.Rows PySem.Calls PySem.SeqAt

section
variable {G : Gl} {Φ : Fm} {d : Nat} {own : Led} {σ : St} {h h' : Heap} {m : Str → Option Value} {trk frz : Led} {s : Shared} {E : Value → Shared → Prop} {c : CC}

def SFn (G : Gl) (Φ : Fm) (v : Value) (first : List Value) (f : List AV → St → Out AV) : Prop := ∀ own σ s m trk frz Q E vs vs', Re G Φ own σ s.heap m trk frz → All2 (VR G (trk.map (·.1)) frz) vs vs' → Post (VR G) G Φ own m trk frz s (f vs σ) Q E → wpAny (model G.prog G.w) Φ.A (call v (first ++ vs')) Q E s

theorem keeps_plain {M : Model} {f : Value} (hf : ∀ a, f ≠ .ref a) (h : Heap) (_ : True) : ∃ k, (k = Keeper.frame ∨ k = Keeper.machine ∨ k = Keeper.boundFrame) ∧ Looks M h (keeperOf f) k := by
  refine ⟨.machine, .inr (.inl rfl), ?_⟩
  cases f <;> first | exact absurd rfl (hf _) | exact Looks.of_pure rfl

theorem bfv_ref {b : BF} {v : Value} (h : BFv b v) : ∀ a, v ≠ .ref a := by cases h <;> (intro a e; cases e)

theorem sx_bf {x : Str} {fp pos : Pos} {args : List Expr} {l : List Ex} {v : Value} {b : BF} {rl : St → Out (List AV)} (ok : FmOk G Φ d) (hk : Φ.scope.names.lookup x = some .globalImplicit) (hd : (x == ("__debug__" : Str)) = false) (hv : nsIn G.K mainGlobals x = some none) (hb : bootBuiltins x = some v) (hn : x ≠ "__name__") (hbv : BFv b v)
    (hc : Cms c args l) (hl : SExs G Φ args rl) (hr : SFn G Φ v [] (bfun b)) : SEx G Φ (.Call (.Name x fp) args [] pos) (fun σ => (rl σ).bind fun vs σ => bfun b vs σ) := by
  intro own σ s m trk frz Q E r p
  show wpAny _ _ (eval (.Name x fp) Φ.env >>= fun g => callWith pos g [] (backTo pos (starEach args Φ.env)) []) Q E s
  refine wpAny_bind (name_B r.F ok.X (topRead_of ok.T) hv hb hn ?_ ok.fn hk hd)
  refine callWith_of (P := fun _ => True) (by rw [nostar hc]; rfl) (keeps_plain (bfv_ref hbv)) (args_of hc (hl pos own σ s m trk frz _ E r (p.bind fun vs σ₁ vs' h₁ tk₁ trk₁ frz₁ _ r₁ e₁ f₁ v₁ p₁ => ⟨trivial, ?_⟩)))
  exact hr own σ₁ _ m trk₁ frz₁ Q E vs vs' r₁ v₁ p₁

theorem sf_len (ok : FmOk G Φ d) : SFn G Φ (.builtin "len") [] (bfun .len) := by
  intro own σ s m trk frz Q E vs vs' r hv p
  unfold bfun at p
  split at p <;> first | (rename_i h; cases h; done) | skip
  · split at p
    · rename_i l _ hn
      have hn := okLen_le hn
      cases hv with | cons hx hv => cases hv; cases hx with | p hx => cases hx; exact PyProof.Rows.len_str (by rw [str_len]; omega) (by rw [str_len]; exact p.ret r (.p (.int _ _)))
    · exact p.elim
  · split at p
    · rename_i l hl
      split at p
      · rename_i hn
        have hn := okLen_le hn
        cases hv with | cons hx hv =>
          cases hv
          obtain ⟨a, ws, rfl, h1, h2⟩ := seq_at ok r hx hl
          have e := h1.length
          rcases h2 with h2 | h2
          · exact len_list h2 (by simp only [List.size_toArray]; omega) (by simp only [List.size_toArray]; rw [← e]; exact p.ret r (.p (.int _ _)))
          · exact len_tuple h2 (by simp only [List.size_toArray]; omega) (by simp only [List.size_toArray]; rw [← e]; exact p.ret r (.p (.int _ _)))
      · exact p.elim
    · exact p.elim
  · exact p.elim

theorem sf_tuple (ok : FmOk G Φ d) : SFn G Φ (.type "tuple") [] (bfun .tuple) := by
  intro own σ s m trk frz Q E vs vs' r hv p
  unfold bfun at p
  split at p <;> first | (rename_i h; cases h; done) | exact p.elim | skip
  split at p
  · rename_i l hl
    split at p
    · rename_i ps hps hn
      have hn := okLen_le hn
      cases hv with | cons hx hv =>
        cases hv
        obtain ⟨a, ws, rfl, h1, h2⟩ := lst_at ok r hx hl
        have e := h1.length
        refine call_tuple_list h2 (fun h' hk => ?_) (by simp only [List.size_toArray]; rw [sizeLine_eq]; omega)
        have F' : Fr Φ.h₀ Φ.L h' m := r.F.keeps hk
        have N' : News Φ.h₀ Φ.L h' (trk ++ (frz ++ own)) := fun p hp => ⟨hk _ _ (r.N p hp).1, (r.N p hp).2⟩
        have r₂ := r.pushF (F'.push { cls := .type "tuple", data := .seq ws.toArray }) (N'.push F' { cls := .type "tuple", data := .seq ws.toArray }) (fun p hp => Heap.lt_size (N' p hp).1)
        exact p _ _ _ trk _ r₂ (List.prefix_refl _) (fun _ q => .tail _ q) (.p (.tup (.inr (.head _)) rfl rfl ((pure_all2 h1 hps).mono fun _ q => .tail _ q)))
    · exact p.elim
  · exact p.elim
theorem methodCall_of {a : Expr} {n : Str} {ap pos : Pos} {args : List Expr} {l : List Ex} {Q : Value → Shared → Prop} (hc : Cms c args l) (hb : ∀ env w, attributeBase a n env w = w) (hp : (ap.endLine == pos.line) = true) (hlen : Nat.blt args.length 29 = true)
    (h : wpAny (model G.prog G.w) Φ.A (eval a Φ.env) (fun ov s₁ => ∀ pl, wpAny (model G.prog G.w) Φ.A (getMethod ov n pl) (fun fx s₂ => wpAny (model G.prog G.w) Φ.A (callWith pos fx.1 fx.2 (backTo pos (starEach args Φ.env)) []) Q E s₂) E s₁) E s) :
    wpAny (model G.prog G.w) Φ.A (eval (.Call (.Attribute a n ap) args [] pos) Φ.env) Q E s := by
  show wpAny _ _ (attributeBase a n Φ.env (eval a Φ.env) >>= fun ov => standAt ap.atName >>= fun _ => methodCall a n ap pos Φ.env ov (args.length + ([] : List Keyword).length) (backTo pos (starEach args Φ.env)) (backToKw pos (keywordEach [] Φ.env))) Q E s
  rw [hb]
  have hlt : args.length < 29 := Nat.le_of_ble_eq_true hlen
  have few : methodCallForm (args.length + ([] : List Keyword).length) (backTo pos (starEach args Φ.env)) (backToKw pos (keywordEach [] Φ.env)) = true := by
    unfold methodCallForm
    have h1 : (backTo pos (starEach args Φ.env)).all (!·.1) = true := by
      have := nostar hc pos Φ.env
      rw [List.any_eq_false] at this
      rw [List.all_eq_true]
      intro x hx
      have := this x hx
      simpa using this
    rw [h1]
    simp only [List.length_nil, Nat.add_zero, Bool.true_and]
    have h2 : (backToKw pos (keywordEach [] Φ.env)) = [] := rfl
    rw [h2]
    simp only [List.all_nil, List.isEmpty_nil, if_true, Nat.add_zero, Bool.true_and]
    exact decide_eq_true (by omega)
  refine wpAny_bind (wpAny_mono h (fun ov s₁ h₁ => wpAny_bind (wpAny_standAt ?_)) fun _ _ x => x)
  unfold methodCall
  rw [few]
  refine wpAny_bind (wpAny_holding (wpAny_mono (h₁ _) (fun fx s₂ h₂ => ?_) fun _ _ x => x))
  have hpos : methodCallPos true a Φ.env ap pos = pure pos := by
    unfold methodCallPos
    rw [hp]; rfl
  obtain ⟨f, first⟩ := fx
  refine wpAny_bind (wpAny_of_eq hpos ?_)
  exact h₂

theorem bm_onList {b : BM} (h : b.onList = true) : ∃ id, Slot "list" b.name id ∧ typeOf (.builtin id) = pure (.type "method_descriptor") := by
  cases b <;> first | cases h | skip
  · exact ⟨_, F.slot_list_append, F.type_list_append⟩
  · exact ⟨_, F.slot_list_pop, F.type_list_pop⟩
  · exact ⟨_, F.slot_list_extend, F.type_list_extend⟩
end
end Mine
namespace Mine
open PySem PySem.W PyProof.Rows PySem.Calls PySem.SeqAt

def BM.id : BM → String
  | .append => "list.append"
  | .pop => "list.pop"
  | .extend => "list.extend"
  | .join => "str.join"
  | .startswith => "str.startswith"
  | .split => "str.split"
  | .rstrip => "str.rstrip"
  | .count => "str.count"
  | .rfind => "str.rfind"
  | .find => "str.find"

theorem bleFalse {a b : Nat} (h : Nat.ble a b = false) : b < a := by
  apply Nat.lt_of_not_le
  intro q
  rw [Nat.ble_eq_true_of_le q] at h; cases h

section
variable {G : Gl} {Φ : Fm} {d : Nat} {own : Led} {σ : St} {h h' : Heap} {m : Str → Option Value} {trk frz : Led} {s : Shared} {E : Value → Shared → Prop} {c : CC}

def SMt (G : Gl) (Φ : Fm) (b : BM) : Prop := ∀ own σ s m trk frz Q E x x' vs vs', Re G Φ own σ s.heap m trk frz → VR G (trk.map (·.1)) frz x x' → All2 (VR G (trk.map (·.1)) frz) vs vs' → Post (VR G) G Φ own m trk frz s (bmeth b x vs σ) Q E → wpAny (model G.prog G.w) Φ.A (call (.builtin b.id) ([x'] ++ vs')) Q E s

theorem bm_list {b : BM} (h : b.onList = true) : Slot "list" b.name b.id ∧ typeOf (.builtin b.id) = pure (.type "method_descriptor") := by
  cases b <;> first | cases h | skip
  · exact ⟨F.slot_list_append, F.type_list_append⟩
  · exact ⟨F.slot_list_pop, F.type_list_pop⟩
  · exact ⟨F.slot_list_extend, F.type_list_extend⟩
theorem bm_str {b : BM} (h : b.onList = false) : Slot "str" b.name b.id ∧ typeOf (.builtin b.id) = pure (.type "method_descriptor") := by
  cases b <;> first | cases h | skip
  · exact ⟨F.slot_str_join, F.type_str_join⟩
  · exact ⟨F.slot_str_startswith, F.type_str_startswith⟩
  · exact ⟨F.slot_str_split, F.type_str_split⟩
  · exact ⟨F.slot_str_rstrip, F.type_str_rstrip⟩
  · exact ⟨F.slot_str_count, F.type_str_count⟩
  · exact ⟨F.slot_str_rfind, F.type_str_rfind⟩
  · exact ⟨F.slot_str_find, F.type_str_find⟩

theorem sx_bm {a : Expr} {n : Str} {ap pos : Pos} {args : List Expr} {l : List Ex} {b : BM} {ra : St → Out AV} {rl : St → Out (List AV)} (ok : FmOk G Φ d) (hn : n = b.name) (hb : ∀ env w, attributeBase a n env w = w) (hp : (ap.endLine == pos.line) = true) (hlen : Nat.blt args.length 29 = true)
    (hc : Cms c args l) (ha : SEx G Φ a ra) (hl : SExs G Φ args rl) (hm : SMt G Φ b) :
    SEx G Φ (.Call (.Attribute a n ap) args [] pos) (fun σ => (ra σ).bind fun x σ => (match recvOk b x σ with | true => (rl σ).bind fun vs σ => bmeth b x vs σ | false => .stuck)) := by
  intro own σ s m trk frz Q E r p
  subst hn
  refine methodCall_of hc hb hp hlen (ha own σ s m trk frz _ E r (p.bind fun x σ₁ x' h₁ tk₁ trk₁ frz₁ _ r₁ e₁ f₁ v₁ p₁ => ?_))
  intro pl
  split at p₁
  · rename_i hrec
    have rest : wpAny (model G.prog G.w) Φ.A (callWith pos (.builtin b.id) [x'] (backTo pos (starEach args Φ.env)) []) Q E { s with heap := h₁, toks := tk₁ } := by
      refine callWith_of (P := fun _ => True) (by rw [nostar hc]; rfl) (keeps_plain (fun a e => by cases e)) (args_of hc (hl pos own σ₁ _ m trk₁ frz₁ _ E r₁ (p₁.bind fun vs σ₂ vs' h₂ tk₂ trk₂ frz₂ _ r₂ e₂ f₂ v₂ p₂ => ⟨trivial, ?_⟩)))
      exact hm own σ₂ _ m trk₂ frz₂ Q E x x' vs vs' r₂ (v₁.mono e₂ f₂) v₂ p₂
    unfold recvOk at hrec
    split at hrec
    · rename_i i
      split at hrec
      · rename_i l hl'
        obtain ⟨sl, ty⟩ := bm_list hrec
        cases v₁ with | obj hadr =>
          obtain ⟨o, ho, hr⟩ := r₁.obj hadr hl'
          cases hr with
          | lst hr =>
            have hg := r₁.trkAt ho
            exact getMethod_builtin (T := "list") ⟨_, hg, rfl⟩ F.plainAttrs_list sl ty (fun a e => by cases e; exact ⟨_, hg, rfl⟩) rest
      · cases hrec
    · obtain ⟨sl, ty⟩ := bm_str (b := b) (by simpa using hrec)
      cases v₁ with | p v₁ =>
        cases v₁
        exact GM.of _ (typeIs_str _ _ _) sl ty GM.noRef rest
    · cases hrec
  · exact p₁.elim

theorem sm_append (ok : FmOk G Φ d) : SMt G Φ .append := by
  intro own σ s m trk frz Q E x x' vs vs' r vx hv p
  unfold bmeth at p
  split at p <;> first | (rename_i h; cases h; done) | exact p.elim | skip
  rename_i i y _
  split at p
  · rename_i l hl
    split at p
    · rename_i hn
      have hn := okLen_le hn
      cases vx with | obj hadr =>
        obtain ⟨o, ho, hr⟩ := r.obj hadr hl
        cases hr with
        | lst hr =>
          rename_i ws n
          cases hv with | cons hy hv =>
            cases hv
            rename_i y'
            have hlen := hr.length
            refine append_K r.F r.N (upd_of (o' := listOf (ws.toArray.push y') (n + 1)) r.nd ho) (fun h' F' N' => ?_) (by simp only [List.size_toArray]; rw [sizeLine_eq]; omega)
            have hi : i < σ.hp.length := (List.getElem?_eq_some_iff.mp hl).1
            have hyb := hy.bd_le
            rw [List.length_map, ← r.len] at hyb
            have hbd := r.bd i _ hl
            have e1 : ws.toArray.push y' = (ws ++ [y']).toArray := by simp
            refine p .none h' s.toks (trk.set i (_, listOf (ws.toArray.push y') (n + 1))) frz (r.setT (ao := .lst (l ++ [y])) ho F' N' ?_ ?_ ?_ ?_) ?_ (fun _ q => q) (.p .none)
            · rw [e1]; exact .lst (hr.append (.cons hy .nil))
            · split
              · exact Nat.le_refl _
              · rename_i hz
                have := bleFalse hz
                exact Nat.le_trans (Nat.le_max_right _ _) (Nat.le_of_lt this)
            · split
              · exact r.hw
              · exact hyb
            · show bds (l ++ [y]) ≤ _
              rw [bds_le]
              intro v hv
              have hold : ∀ v ∈ l, v.bd ≤ Nat.max i σ.hw := fun v hv => Nat.le_trans (bds_le.mp (Nat.le_refl (bds l)) v hv) hbd
              split
              · rename_i hz
                have hz := Nat.le_of_ble_eq_true hz
                rcases List.mem_append.mp hv with hv | hv
                · exact hold v hv
                · rw [List.mem_singleton.mp hv]; exact hz
              · rename_i hz
                have := bleFalse hz
                rcases List.mem_append.mp hv with hv | hv
                · exact Nat.le_trans (hold v hv) (Nat.max_le.mpr ⟨Nat.le_max_left _ _, Nat.le_trans (Nat.le_max_right _ _) (Nat.le_trans (Nat.le_of_lt this) (Nat.le_max_right _ _))⟩)
                · rw [List.mem_singleton.mp hv]; exact Nat.le_max_right _ _
            · rw [set_keys ho]; exact List.prefix_refl _
    · exact p.elim
  · exact p.elim

theorem sm_count : SMt G Φ .count := by
  intro own σ s m trk frz Q E x x' vs vs' r vx hv p
  unfold bmeth at p
  split at p <;> first | (rename_i h; cases h; done) | exact p.elim | skip
  cases vx with | p vx => cases vx; cases hv with | cons hy hv => cases hv; cases hy with | p hy => cases hy; exact SC.count (p.ret r (.p (.int _ _)))
theorem sm_rfind : SMt G Φ .rfind := by
  intro own σ s m trk frz Q E x x' vs vs' r vx hv p
  unfold bmeth at p
  split at p <;> first | (rename_i h; cases h; done) | exact p.elim | skip
  cases vx with | p vx => cases vx; cases hv with | cons hy hv => cases hv; cases hy with | p hy => cases hy; exact SC.rfind (p.ret r (.p (.int _ _)))
theorem sm_find : SMt G Φ .find := by
  intro own σ s m trk frz Q E x x' vs vs' r vx hv p
  unfold bmeth at p
  split at p <;> first | (rename_i h; cases h; done) | exact p.elim | skip
  cases vx with | p vx => cases vx; cases hv with | cons hy hv => cases hv; cases hy with | p hy => cases hy; exact SC.find (p.ret r (.p (.int _ _)))
theorem sm_startswith : SMt G Φ .startswith := by
  intro own σ s m trk frz Q E x x' vs vs' r vx hv p
  unfold bmeth at p
  split at p <;> first | (rename_i h; cases h; done) | exact p.elim | skip
  cases vx with | p vx => cases vx; cases hv with | cons hy hv => cases hv; cases hy with | p hy => cases hy; exact SC.startswith (p.ret0 r (.p (.bool _)))
theorem prel_str {an : List Str} {hb : Heap} {frz : Led} (y : Str) (t : Tok) : PRel an hb frz (.str y.cps.toList) (.str y t) := by
  have := PRel.str (an := an) (hb := hb) (frz := frz) y.cps.toList t
  simpa using this
theorem sm_rstrip : SMt G Φ .rstrip := by
  intro own σ s m trk frz Q E x x' vs vs' r vx hv p
  unfold bmeth at p
  split at p <;> first | (rename_i h; cases h; done) | exact p.elim | skip
  split at p
  · rename_i hn
    have hn := okLen_le hn
    cases vx with | p vx => cases vx; cases hv with | cons hy hv => cases hv; cases hy with | p hy => cases hy; exact SC.rstripChars (fun t' k => p.ret r (.p (prel_str _ _))) (by rw [str_len, sizeLine_eq]; omega)
  · exact p.elim

def OR (G : Gl) : List Addr → Led → Option AV → Value → Prop := fun ι frz a b => match a with
  | none => b = .none
  | some v => VR G ι frz v b
def SOp (G : Gl) (Φ : Fm) (e : Option Expr) (r : St → Out (Option AV)) : Prop := ∀ own σ s m trk frz Q E, Re G Φ own σ s.heap m trk frz → Post (OR G) G Φ own m trk frz s (r σ) Q E → wpAny (model G.prog G.w) Φ.A (valueOrNone (evalOpt e Φ.env)) Q E s
theorem so_none : SOp G Φ none (fun σ => .ok none σ) := fun own σ s m trk frz Q E r p => wpAny_pure (p.ret0 r rfl)
theorem so_some {e : Expr} {re : St → Out AV} (he : SEx G Φ e re) : SOp G Φ (some e) (fun σ => (re σ).bind fun v σ => .ok (some v) σ) := by
  intro own σ s m trk frz Q E r p
  exact he own σ s m trk frz Q E r (p.bind fun x σ₁ x' h₁ tk₁ trk₁ frz₁ _ r₁ e₁ f₁ v₁ p₁ => p₁.ret0 r₁ v₁)

theorem OR.mono {a : Option AV} {b : Value} {ι ι' : List Addr} {frz frz' : Led} (h : OR G ι frz a b) (hp : ι <+: ι') (hf : ∀ q ∈ frz, q ∈ frz') : OR G ι' frz' a b := by
  cases a with
  | none => exact h
  | some v => exact (show VR G ι frz v b from h).mono hp hf
theorem part_of {a : Option AV} {b : Value} {ι : List Addr} {frz : Led} {i : Option Int} (h : OR G ι frz a b) (e : partOf a = some i) : IsPart b i ∧ ∃ l : Option (Int × Tok), b = partValue l ∧ i = l.map (·.1) := by
  unfold partOf at e
  split at e
  · cases e; cases (show b = .none from h); exact ⟨.none, none, rfl, rfl⟩
  · cases e
    cases (show VR G ι frz _ b from h) with | p h => cases h; rename_i t; exact ⟨.int _ t, some (_, t), rfl, rfl⟩
  · cases e

theorem txt_slice (l : List Nat) (a b : Option Int) : Txt.slice ⟨l.toArray⟩ a b = ⟨(sliL a b l).toArray⟩ := by
  have e : Builtin.Str.strSliceIndices a b 1 l.length = (List.range (b.elim l.length (clipAt l.length) - a.elim 0 (clipAt l.length))).map (a.elim 0 (clipAt l.length) + ·) := by
    rw [← sliceRange_one]
    unfold Builtin.Str.strSliceIndices
    cases a <;> cases b <;> simp [clipAt_cast]
  have e2 : ((Builtin.Str.strSliceIndices a b 1 l.length).filterMap ((⟨l.toArray⟩ : Str).cps[·]?)) = sliL a b l := by
    rw [e, pick_run]; rfl
  unfold Txt.slice
  rw [str_len, e2]
  split
  · rename_i h
    rw [e] at h
    simp only [List.length_map, List.length_range] at h
    have h : b.elim l.length (clipAt l.length) - a.elim 0 (clipAt l.length) = l.length := by simpa using h
    have hb : b.elim l.length (clipAt l.length) ≤ l.length := by
      cases b with
      | none => exact Nat.le_refl _
      | some b => have := clipAt_cast l.length b; show clipAt l.length b ≤ _; omega
    by_cases h0 : l.length = 0
    · have : l = [] := List.eq_nil_of_length_eq_zero h0
      subst this
      simp [sliL]
    · have ha : a.elim 0 (clipAt l.length) = 0 := by omega
      unfold sliL
      rw [ha, List.drop_zero, Nat.sub_zero, List.take_of_length_le (by omega)]
  · rfl

theorem sx_sli {a : Expr} {lo hi : Option Expr} {sp pos : Pos} {ra : St → Out AV} {rlo rhi : St → Out (Option AV)} (ok : FmOk G Φ d) (ha : SEx G Φ a ra) (hlo : SOp G Φ lo rlo) (hhi : SOp G Φ hi rhi) :
    SEx G Φ (.Subscript a (.Slice lo hi none sp) pos) (fun σ => (ra σ).bind fun x σ => (rlo σ).bind fun p σ => (rhi σ).bind fun q σ => sliV x p q σ) := by
  intro own σ s m trk frz Q E r p
  refine Subscript_ (ha own σ s m trk frz _ E r (p.bind fun x σ₁ x' h₁ tk₁ trk₁ frz₁ _ r₁ e₁ f₁ v₁ p₁ => ?_))
  rw [arm_eval_Slice]
  refine wpAny_bind (hlo own σ₁ _ m trk₁ frz₁ _ E r₁ (p₁.bind fun y σ₂ y' h₂ tk₂ trk₂ frz₂ _ r₂ e₂ f₂ v₂ p₂ => ?_))
  refine wpAny_bind (wpAny_holding (hhi own σ₂ _ m trk₂ frz₂ _ E r₂ (p₂.bind fun z σ₃ z' h₃ tk₃ trk₃ frz₃ _ r₃ e₃ f₃ v₃ p₃ => ?_)))
  refine wpAny_bind (wpAny_holding (wpAny_pure ?_))
  refine wpAny_newObj_type ?_
  have vx := (v₁.mono e₂ f₂).mono e₃ f₃
  have vy := v₂.mono e₃ f₃
  unfold sliV at p₃
  split at p₃
  · rename_i i j hi hj
    obtain ⟨q1, l1, rfl, rfl⟩ := part_of vy hi
    obtain ⟨q2, l2, rfl, rfl⟩ := part_of v₃ hj
    have r₄ := (r₃.pushO (o := { cls := .type "slice", data := .fields #[partValue l1, partValue l2, .none] })).drop
    split at p₃
    · rename_i l _
      split at p₃
      · rename_i hn
        have hn := okLen_le hn
        cases vx with | p vx =>
          cases vx
          refine tail_any (typeIs_str _ _ _) F.slot_str_getitem.lookup (wpAny_getItem_str_slice (l := l1) (u := l2) (st := none) ⟨_, Heap.get?_push_size _ rfl, rfl, rfl⟩ rfl (post_val_or_str ⟨Nat.le_trans (Txt.slice_le _ _ _) (by rw [str_len, sizeLine_eq]; omega), fun t' k => ?_⟩)) rfl
          have := txt_slice l (l1.map (·.1)) (l2.map (·.1))
          refine p₃ _ _ _ trk₃ frz₃ r₄ (List.prefix_refl _) (fun _ q => q) ?_
          show VR G _ _ _ (.str (Txt.slice ⟨l.toArray⟩ (l1.map (·.1)) (l2.map (·.1))) t')
          rw [this]
          exact .p (.str _ _)
      · exact p₃.elim
    · split at p₃
      · rename_i l hl
        split at p₃
        · rename_i hn
          have hn := okLen_le hn
          obtain ⟨ad, vs, rfl, hvs, hls⟩ := lst_at ok r₃ vx hl
          have hlen := hvs.length
          refine tail_any (Heap.IsList.typeIs (hls.push _)) slot_list_getitem.lookup (wpAny_getItem_list_slice (hls.push _) (Heap.IsSliceOf.new ..) q1 q2 .none (by simp) ?_ (by simp only [List.size_toArray]; rw [sizeLine_eq]; omega)) rfl
          have e : slicePick vs.toArray (l1.map (·.1)) (l2.map (·.1)) none = (sliL (l1.map (·.1)) (l2.map (·.1)) vs).toArray := by
            rw [slicePick_plain]; simp [sliL]
          rw [e]
          have hv2 : All2 (VR G (trk₃.map (·.1)) frz₃) (sliL (l1.map (·.1)) (l2.map (·.1)) l) (sliL (l1.map (·.1)) (l2.map (·.1)) vs) := by
            unfold sliL
            rw [hlen]
            exact (hvs.drop _).take _
          refine newLst_post (n := 0) (s := { s with heap := h₃.push _, toks := tk₃ }) r₄ hv2 (Post.later p₃ (List.prefix_refl _) fun _ q => q) (r₄.F.push _) (r₄.N.push r₄.F _) fun p hp => Heap.lt_size (r₄.N p hp).1
        · exact p₃.elim
      · exact p₃.elim
  · exact p₃.elim
end
end Mine
namespace Mine
open PySem PySem.W PyProof.Rows PySem.Calls PySem.SeqAt

theorem nd_inj {α : Type} : ∀ {l : List α} {i j : Nat} {x : α}, l.Nodup → l[i]? = some x → l[j]? = some x → i = j
  | [], _, _, _, _, h, _ => by simp at h
  | a :: l, 0, 0, _, _, _, _ => rfl
  | a :: l, 0, j + 1, x, nd, h, k => by
    cases h
    exact absurd (List.mem_of_getElem? (i := j) (by simpa using k)) (List.nodup_cons.mp nd).1
  | a :: l, i + 1, 0, x, nd, h, k => by
    cases k
    exact absurd (List.mem_of_getElem? (i := i) (by simpa using h)) (List.nodup_cons.mp nd).1
  | a :: l, i + 1, j + 1, x, nd, h, k => by
    rw [nd_inj (i := i) (j := j) (List.nodup_cons.mp nd).2 (by simpa using h) (by simpa using k)]

section
variable {G : Gl} {Φ : Fm} {d : Nat} {own : Led} {σ : St} {h h' : Heap} {m : Str → Option Value} {trk frz : Led} {s : Shared} {E : Value → Shared → Prop} {c : CC}

/-- from a statement's post to its expression's -/
theorem PostS.bind {α β : Type} {R : List Addr → Led → α → β → Prop} {fb : Nat} {o : Out α} {k : α → St → Out Fl} {Q : Flow → Shared → Prop} {Q' : β → Shared → Prop} (h : PostS G Φ own fb trk frz s (o.bind k) Q E) 
    (step : ∀ a σ₁ b h₁ tk₁ trk₁ frz₁, o = .ok a σ₁ → Re G Φ own σ₁ h₁ m trk₁ frz₁ → trk.map (·.1) <+: trk₁.map (·.1) → (∀ q ∈ frz, q ∈ frz₁) → R (trk₁.map (·.1)) frz₁ a b →
      PostS G Φ own fb trk₁ frz₁ { s with heap := h₁, toks := tk₁ } (k a σ₁) Q E → Q' b { s with heap := h₁, toks := tk₁ }) (hfb : fb ≤ trk.length) : Post R G Φ own m trk frz s o Q' E := by
  have tk : ∀ {t t' : List Addr}, t <+: t' → fb ≤ t.length → t.take fb = t'.take fb := by
    rintro t _ ⟨u, rfl⟩ h
    rw [List.take_append_of_le_length h]
  cases o with
  | ok a σ =>
    intro b h' tk' trk' frz' r p q v
    refine step a σ b h' tk' trk' frz' rfl r p q v ?_
    have e := tk p (by simpa using hfb)
    revert h
    show PostS G Φ own fb trk frz s (k a σ) Q E → _
    generalize k a σ = o'
    intro h
    cases o' with
    | ok a' σ' => exact fun b₂ h₂ tk₂ m₂ trk₂ frz₂ r₂ p₂ q₂ v₂ => h b₂ h₂ tk₂ m₂ trk₂ frz₂ r₂ (by rw [e]; exact p₂) (fun x hx => q₂ x (q x hx)) v₂
    | exc x σ' => exact fun e₂ h₂ tk₂ m₂ trk₂ frz₂ r₂ p₂ q₂ => h e₂ h₂ tk₂ m₂ trk₂ frz₂ r₂ (by rw [e]; exact p₂) (fun x hx => q₂ x (q x hx))
    | stuck => exact h
  | exc x σ => exact fun e h' tk' m' trk' frz' r p q => h e h' tk' m' trk' frz' r ((List.take_prefix _ _).trans p) q
  | stuck => exact h.elim

theorem PostS.ret {fb tk : Nat} {fl : Fl} {fl' : Flow} {Q : Flow → Shared → Prop} (h : PostS G Φ own fb trk frz s (.ok fl σ) Q E) (r : Re G Φ own σ s.heap m trk frz) (v : FlR G (trk.map (·.1)) frz fl fl') : Q fl' { s with toks := tk } :=
  h fl' s.heap tk m trk frz r (List.take_prefix _ _) (fun _ q => q) v

theorem PostS.trimmed {fb tk : Nat} {fl : Fl} {fl' : Flow} {Q : Flow → Shared → Prop} (h : PostS G Φ own fb trk frz s (.ok fl (trim σ)) Q E) (r : Re G Φ own σ s.heap m trk frz) (hfb : σ.fb = fb) (hn : fl = .next ∧ fl' = .next) : Q fl' { s with toks := tk } := by
  obtain ⟨n, hn', r'⟩ := r.trim
  obtain ⟨rfl, rfl⟩ := hn
  refine h .next s.heap tk m _ frz r' ?_ (fun _ q => q) .next
  subst hfb
  rw [List.map_take]
  exact List.take_prefix_take_left hn'

theorem Re.store {x : Str} {v : AV} {v' : Value} {i : Nat} (ok : FmOk G Φ d) (r : Re G Φ own σ h m trk frz) (hx : Φ.ns[i]? = some x) (hv : VR G (trk.map (·.1)) frz v v') (F : Fr Φ.h₀ Φ.L h' (fun y => if y = x then some v' else m y)) (N : News Φ.h₀ Φ.L h' (trk ++ (frz ++ own))) :
    Re G Φ own (setLo i v σ) h' (fun y => if y = x then some v' else m y) trk frz := by
  refine ⟨F, N, r.nd, r.hp, r.bd, r.hw, fun j w e => ?_, r.fb⟩
  unfold setLo at e
  dsimp only at e
  rw [List.getElem?_set] at e
  split at e
  · rename_i hij
    subst hij
    split at e
    · cases e
      exact ⟨x, v', hx, if_pos rfl, hv⟩
    · cases e
  · rename_i hij
    obtain ⟨y, w', hy, hm, hr⟩ := r.lo j w e
    refine ⟨y, w', hy, ?_, hr⟩
    have : y ≠ x := by
      intro q
      subst q
      exact hij (nd_inj ok.nn hx hy)
    rw [if_neg this]; exact hm

theorem ss_expr {e : Expr} {x : Ex} {pos : Pos} {re : St → Out AV} (hc : Cm c e x) (he : SEx G Φ e re) (hfb : ∀ σ v σ', re σ = .ok v σ' → σ'.fb = σ.fb) (hk : Φ.scope.kind = .function) : SSt G Φ (.Expr e pos) (fun σ => (re σ).bind fun _ σ => .ok .next (trim σ)) := by
  intro own σ s m trk frz Q E r p
  refine wpAny_Expr_any (he own σ s m trk frz _ E r (p.bind (fun v σ₁ v' h₁ tk₁ trk₁ frz₁ ho r₁ e₁ f₁ v₁ p₁ => ?_) (by rw [← r.len]; exact r.fb))) ?_ (hc.swaps _ _ _)
  · exact p₁.trimmed r₁ (hfb σ v σ₁ ho) ⟨rfl, rfl⟩
  · show (Φ.scope.kind == .module && _) = false
    rw [hk]; rfl

theorem ss_asg {n : Str} {pn : Pos} {e : Expr} {x : Ex} {pos : Pos} {i : Nat} {re : St → Out AV} (ok : FmOk G Φ d) (hn : Φ.ns[i]? = some n) (hl : Φ.scope.names.lookup n = some .local) (hc : Cm c e x) (he : SEx G Φ e re) (hfb : ∀ σ v σ', re σ = .ok v σ' → σ'.fb = σ.fb) :
    SSt G Φ (.Assign [.Name n pn] e pos) (fun σ => (re σ).bind fun v σ => .ok .next (trim (setLo i v σ))) := by
  intro own σ s m trk frz Q E r p
  refine wpAny_Assign_Name (he own σ s m trk frz _ E r (p.bind (fun v σ₁ v' h₁ tk₁ trk₁ frz₁ ho r₁ e₁ f₁ v₁ p₁ => ?_) (by rw [← r.len]; exact r.fb))) (hc.swaps _ _ _)
  refine stN r₁.F r₁.N (fun h' F' N' => ?_) ok.fn hl
  have r₂ := r₁.store ok hn v₁ F' N'
  obtain ⟨k, hk, r'⟩ := r₂.trim
  refine p₁ .next h' _ _ _ frz₁ r' ?_ (fun _ q => q) .next
  rw [List.map_take]
  have : (setLo i v σ₁).fb = σ.fb := hfb σ v σ₁ ho
  rw [this] at hk
  exact List.take_prefix_take_left hk

theorem ss_ret {e : Expr} {pos : Pos} {re : St → Out AV} (he : SEx G Φ e re) : SSt G Φ (.Return (some e) pos) (fun σ => (re σ).bind fun v σ => .ok (.ret v) σ) := by
  intro own σ s m trk frz Q E r p
  refine wpAny_Return_some (he own σ s m trk frz _ E r (p.bind (fun v σ₁ v' h₁ tk₁ trk₁ frz₁ ho r₁ e₁ f₁ v₁ p₁ => ?_) (by rw [← r.len]; exact r.fb)))
  exact PostS.ret (tk := tk₁) p₁ r₁ (.ret v₁)
theorem ss_ret0 {pos : Pos} : SSt G Φ (.Return none pos) (fun σ => .ok (.ret (.p .none)) σ) := fun own σ s m trk frz Q E r p => wpAny_Return_none (PostS.ret (tk := s.toks) p r (.ret (.p .none)))
theorem ss_pass {pos : Pos} : SSt G Φ (.Pass pos) (fun σ => .ok .next σ) := fun own σ s m trk frz Q E r p => wpAny_Pass (PostS.ret (tk := s.toks) p r .next)
theorem ss_brk {pos : Pos} : SSt G Φ (.Break pos) (fun σ => .ok .brk σ) := fun own σ s m trk frz Q E r p => wpAny_Break (PostS.ret (tk := s.toks) p r .brk)
theorem ss_cont {pos : Pos} : SSt G Φ (.Continue pos) (fun σ => .ok .cont σ) := fun own σ s m trk frz Q E r p => wpAny_Continue (PostS.ret (tk := s.toks) p r .cont)

theorem PostS.later {fb : Nat} {o : Out Fl} {Q : Flow → Shared → Prop} {trk₁ frz₁ : Led} {h₁ : Heap} {tk₁ : Nat} (h : PostS G Φ own fb trk frz s o Q E) (hp : (trk.map (·.1)).take fb <+: trk₁.map (·.1)) (hf : ∀ q ∈ frz, q ∈ frz₁) (hl : fb ≤ trk.length) :
    PostS G Φ own fb trk₁ frz₁ { s with heap := h₁, toks := tk₁ } o Q E := by
  have e : (trk.map (·.1)).take fb = (trk₁.map (·.1)).take fb := by
    have := take_prefix hp
    rw [List.length_take, List.length_map, Nat.min_eq_left hl] at this
    exact this.symm
  cases o with
  | ok a' σ' => exact fun b₂ h₂ tk₂ m₂ trk₂ frz₂ r₂ p₂ q₂ v₂ => h b₂ h₂ tk₂ m₂ trk₂ frz₂ r₂ (by rw [e]; exact p₂) (fun x hx => q₂ x (hf x hx)) v₂
  | exc x σ' => exact fun e₂ h₂ tk₂ m₂ trk₂ frz₂ r₂ p₂ q₂ => h e₂ h₂ tk₂ m₂ trk₂ frz₂ r₂ (by rw [e]; exact p₂) (fun x hx => q₂ x (hf x hx))
  | stuck => exact h

theorem trim_fb : (trim σ).fb = σ.fb := rfl

theorem ss_ite {t : Expr} {a b : List Stmt} {pos : Pos} {rt : St → Out Bool} {ra rb : St → Out Fl} (ht : STs G Φ t rt) (ha : SSts G Φ a ra) (hb : SSts G Φ b rb) (hfb : ∀ σ v σ', rt σ = .ok v σ' → σ'.fb = σ.fb) :
    SSt G Φ (.If t a b pos) (fun σ => (rt σ).bind fun r σ => match r with | true => ra (trim σ) | false => rb (trim σ)) := by
  intro own σ s m trk frz Q E r p
  have hl : σ.fb ≤ trk.length := by rw [← r.len]; exact r.fb
  refine wpAny_If (ht own σ s m trk frz _ E r (p.bind (fun v σ₁ v' h₁ tk₁ trk₁ frz₁ ho r₁ e₁ f₁ v₁ p₁ => ?_) hl))
  subst v₁
  have hf := hfb σ v σ₁ ho
  obtain ⟨n, hn, r'⟩ := r₁.trim
  rw [hf] at hn
  have hl₁ : σ.fb ≤ trk₁.length := by
    have := e₁.length_le
    simp only [List.length_map] at this
    omega
  have pre : (trk₁.map (·.1)).take σ.fb <+: (trk₁.take n).map (·.1) := by rw [List.map_take]; exact List.take_prefix_take_left hn
  cases v with
  | true =>
    refine ha own (trim σ₁) _ m _ frz₁ Q E r' ?_
    rw [trim_fb, hf]
    exact PostS.later p₁ pre (fun _ q => q) hl₁
  | false =>
    refine hb own (trim σ₁) _ m _ frz₁ Q E r' ?_
    rw [trim_fb, hf]
    exact PostS.later p₁ pre (fun _ q => q) hl₁
end
end Mine
namespace Mine
open PySem PySem.W PyProof.Rows PySem.Calls PySem.SeqAt

/-- the frame's base stays -/
structure Fbp (v : Ev) : Prop where
  ex : ∀ e σ a σ', v.ex e σ = .ok a σ' → σ'.fb = σ.fb
  exs : ∀ e σ a σ', v.exs e σ = .ok a σ' → σ'.fb = σ.fb
  tst : ∀ e σ a σ', v.tst e σ = .ok a σ' → σ'.fb = σ.fb
  sts : ∀ e σ a σ', v.sts e σ = .ok a σ' → σ'.fb = σ.fb
  call : ∀ f l σ a σ', v.call f l σ = .ok a σ' → σ'.fb = σ.fb
  whl : ∀ c b σ a σ', v.whl c b σ = .ok a σ' → σ'.fb = σ.fb
  forL : ∀ x w k b σ a σ', v.forL x w k b σ = .ok a σ' → σ'.fb = σ.fb
  forR : ∀ x n k b σ a σ', v.forR x n k b σ = .ok a σ' → σ'.fb = σ.fb

theorem bind_ok {α β : Type} {o : Out α} {k : α → St → Out β} {b : β} {σ : St} (h : o.bind k = .ok b σ) : ∃ a τ, o = .ok a τ ∧ k a τ = .ok b σ := by
  cases o with
  | ok a τ => exact ⟨a, τ, rfl, h⟩
  | exc x τ => cases h
  | stuck => cases h

theorem newLst_fb {l : List AV} {σ σ' : St} {a : AV} (h : newLst l σ = .ok a σ') : σ'.fb = σ.fb := by
  unfold newLst at h
  split at h <;> cases h
  rfl
theorem binop_fb {o : Bop} {x y a : AV} {σ σ' : St} (h : binop o x y σ = .ok a σ') : σ'.fb = σ.fb := by
  cases o <;> unfold binop at h <;> dsimp only at h
  · unfold badd at h
    split at h
    · cases h; rfl
    · split at h <;> cases h; rfl
    · split at h
      · exact newLst_fb h
      · cases h
  · unfold bsub at h
    split at h <;> cases h; rfl
  · unfold bmul at h
    split at h
    · split at h <;> cases h; rfl
    · split at h <;> cases h; rfl
    · split at h
      · split at h
        · exact newLst_fb h
        · cases h
      · cases h
    · cases h
  · unfold bfdiv at h
    split at h
    · split at h <;> cases h; rfl
    · cases h
  · unfold bmod at h
    split at h
    · split at h <;> cases h; rfl
    · cases h
theorem retSt_fb {n fb : Nat} {lo : List (Option AV)} {v a : AV} {σ σ' : St} (h : retSt n fb lo v σ = .ok a σ') : σ'.fb = fb := by
  unfold retSt at h
  split at h
  · cases h; rfl
  · split at h
    · cases h; rfl
    · split at h
      · cases h; rfl
      · split at h
        · split at h <;> cases h <;> rfl
        · cases h
    · split at h <;> cases h <;> rfl
theorem bfun_fb {b : BF} {l : List AV} {a : AV} {σ σ' : St} (h : bfun b l σ = .ok a σ') : σ'.fb = σ.fb := by
  unfold bfun at h
  split at h
  · split at h <;> cases h; rfl
  · split at h
    · split at h <;> cases h; rfl
    · cases h
  · split at h
    · split at h <;> cases h; rfl
    · cases h
  · cases h
theorem bmeth_fb {b : BM} {v : AV} {l : List AV} {a : AV} {σ σ' : St} (h : bmeth b v l σ = .ok a σ') : σ'.fb = σ.fb := by
  unfold bmeth at h
  split at h
  · split at h
    · split at h <;> cases h; rfl
    · cases h
  · cases h; rfl
  · cases h; rfl
  · cases h; rfl
  · cases h; rfl
  · split at h <;> cases h; rfl
  · cases h
theorem sliV_fb {x : AV} {p q : Option AV} {a : AV} {σ σ' : St} (h : sliV x p q σ = .ok a σ') : σ'.fb = σ.fb := by
  unfold sliV at h
  split at h
  · split at h
    · split at h <;> cases h; rfl
    · split at h
      · split at h
        · exact newLst_fb h
        · cases h
      · cases h
  · cases h

section
variable {P : Prg} {ih : Nat → Ev} {d : Nat}
theorem stStep_fb (F : ∀ d, Fbp (ih d)) {s : Sx} {σ σ' : St} {a : Fl} (h : stStep ih d s σ = .ok a σ') : σ'.fb = σ.fb := by
  unfold stStep at h
  split at h
  · obtain ⟨v, τ, h1, h2⟩ := bind_ok h; have := (F d).ex _ _ _ _ h1; cases h2; exact this
  · obtain ⟨v, τ, h1, h2⟩ := bind_ok h; have := (F d).ex _ _ _ _ h1; cases h2; exact this
  · obtain ⟨v, τ, h1, h2⟩ := bind_ok h
    have := (F d).tst _ _ _ _ h1
    split at h2
    · exact ((F d).sts _ _ _ _ h2).trans this
    · exact ((F d).sts _ _ _ _ h2).trans this
  · exact (F d).whl _ _ _ _ _ h
  · obtain ⟨v, τ, h1, h2⟩ := bind_ok h
    obtain ⟨f, τ', h3, h4⟩ := bind_ok h2
    have := (F d).ex _ _ _ _ h1
    cases h4
    exact this
  · obtain ⟨v, τ, h1, h2⟩ := bind_ok h
    have := (F d).ex _ _ _ _ h1
    split at h2
    · split at h2
      · exact ((F d).forR _ _ _ _ _ _ _ h2).trans this
      · cases h2
    · cases h2
  · obtain ⟨v, τ, h1, h2⟩ := bind_ok h; have := (F d).ex _ _ _ _ h1; cases h2; exact this
  · cases h; rfl
  · cases h; rfl
  · cases h; rfl
  · cases h; rfl
  · cases h

theorem opt_fb (F : ∀ d, Fbp (ih d)) {e : Option Ex} {σ σ' : St} {a : Option AV} (h : optStep ih d e σ = .ok a σ') : σ'.fb = σ.fb := by
  cases e with
  | none => cases h; rfl
  | some e =>
    obtain ⟨v, τ, h1, h2⟩ := bind_ok h
    have := (F d).ex _ _ _ _ h1
    cases h2; exact this

theorem fbp_step (F : ∀ d, Fbp (ih d)) : Fbp ⟨exStep P ih d, exsStep ih d, tstStep ih d, stsStep ih d, callStep P ih d, whlStep ih d, forStep ih d, forRStep ih d⟩ := by
  refine ⟨fun e σ a σ' h => ?_, fun e σ a σ' h => ?_, fun e σ a σ' h => ?_, fun e σ a σ' h => ?_, fun f l σ a σ' h => ?_, fun c b σ a σ' h => ?_, fun x w k b σ a σ' h => ?_, fun x n k b σ a σ' h => ?_⟩
  · dsimp only at h
    have ex := (F d).ex
    unfold exStep at h
    split at h
    · cases h; rfl
    · split at h <;> cases h; rfl
    · obtain ⟨v, τ, h1, h2⟩ := bind_ok h
      obtain ⟨w, τ', h3, h4⟩ := bind_ok h2
      exact (binop_fb h4).trans ((ex _ _ _ _ h3).trans (ex _ _ _ _ h1))
    · obtain ⟨v, τ, h1, h2⟩ := bind_ok h
      obtain ⟨w, τ', h3, h4⟩ := bind_ok h2
      split at h4 <;> cases h4
      exact (ex _ _ _ _ h3).trans (ex _ _ _ _ h1)
    · obtain ⟨v, τ, h1, h2⟩ := bind_ok h
      split at h2 <;> cases h2
      exact ex _ _ _ _ h1
    · obtain ⟨v, τ, h1, h2⟩ := bind_ok h
      split at h2 <;> cases h2
      exact ex _ _ _ _ h1
    · obtain ⟨v, τ, h1, h2⟩ := bind_ok h
      split at h2
      · exact (ex _ _ _ _ h2).trans (ex _ _ _ _ h1)
      · cases h2; exact ex _ _ _ _ h1
      · cases h2
    · obtain ⟨v, τ, h1, h2⟩ := bind_ok h
      split at h2
      · cases h2; exact ex _ _ _ _ h1
      · exact (ex _ _ _ _ h2).trans (ex _ _ _ _ h1)
      · cases h2
    · obtain ⟨v, τ, h1, h2⟩ := bind_ok h
      have := (F d).tst _ _ _ _ h1
      split at h2
      · exact (ex _ _ _ _ h2).trans this
      · exact (ex _ _ _ _ h2).trans this
    · obtain ⟨v, τ, h1, h2⟩ := bind_ok h
      have := (F d).exs _ _ _ _ h1
      split at h2
      · split at h2 <;> cases h2; exact this
      · cases h2
    · obtain ⟨v, τ, h1, h2⟩ := bind_ok h
      exact (newLst_fb h2).trans ((F d).exs _ _ _ _ h1)
    · obtain ⟨v, τ, h1, h2⟩ := bind_ok h
      obtain ⟨w, τ', h3, h4⟩ := bind_ok h2
      split at h4 <;> cases h4
      exact (ex _ _ _ _ h3).trans (ex _ _ _ _ h1)
    · obtain ⟨v, τ, h1, h2⟩ := bind_ok h
      obtain ⟨w, τ', h3, h4⟩ := bind_ok h2
      obtain ⟨w', τ'', h5, h6⟩ := bind_ok h4
      exact (sliV_fb h6).trans ((opt_fb F h5).trans ((opt_fb F h3).trans (ex _ _ _ _ h1)))
    · obtain ⟨v, τ, h1, h2⟩ := bind_ok h
      exact ((F d).call _ _ _ _ _ h2).trans ((F d).exs _ _ _ _ h1)
    · obtain ⟨v, τ, h1, h2⟩ := bind_ok h
      exact (bfun_fb h2).trans ((F d).exs _ _ _ _ h1)
    · obtain ⟨v, τ, h1, h2⟩ := bind_ok h
      split at h2
      · obtain ⟨w, τ', h3, h4⟩ := bind_ok h2
        exact (bmeth_fb h4).trans (((F d).exs _ _ _ _ h3).trans (ex _ _ _ _ h1))
      · cases h2
    · cases h
  · dsimp only at h
    unfold exsStep at h
    split at h
    · cases h; rfl
    · obtain ⟨v, τ, h1, h2⟩ := bind_ok h
      obtain ⟨w, τ', h3, h4⟩ := bind_ok h2
      cases h4
      exact ((F d).exs _ _ _ _ h3).trans ((F d).ex _ _ _ _ h1)
  · dsimp only at h
    have tst := (F d).tst
    unfold tstStep at h
    split at h
    · obtain ⟨v, τ, h1, h2⟩ := bind_ok h; cases h2; exact tst _ _ _ _ h1
    · obtain ⟨v, τ, h1, h2⟩ := bind_ok h
      split at h2
      · exact (tst _ _ _ _ h2).trans (tst _ _ _ _ h1)
      · cases h2; exact tst _ _ _ _ h1
    · obtain ⟨v, τ, h1, h2⟩ := bind_ok h
      split at h2
      · cases h2; exact tst _ _ _ _ h1
      · exact (tst _ _ _ _ h2).trans (tst _ _ _ _ h1)
    · cases h
    · obtain ⟨v, τ, h1, h2⟩ := bind_ok h
      split at h2 <;> cases h2
      exact (F d).ex _ _ _ _ h1
  · dsimp only at h
    unfold stsStep at h
    split at h
    · cases h; rfl
    · obtain ⟨v, τ, h1, h2⟩ := bind_ok h
      have := stStep_fb F h1
      split at h2
      · exact ((F d).sts _ _ _ _ h2).trans this
      · cases h2; exact this
  · dsimp only at h
    unfold callStep at h
    split at h
    · cases h
    · split at h
      · cases h
      · split at h
        · cases h
        · split at h
          · exact retSt_fb h
          · cases h
          · cases h
  · dsimp only at h
    unfold whlStep at h
    obtain ⟨v, τ, h1, h2⟩ := bind_ok h
    have e1 := (F d).tst _ _ _ _ h1
    split at h2
    · cases h2; exact e1
    · obtain ⟨w, τ', h3, h4⟩ := bind_ok h2
      have e2 := ((F d).sts _ _ _ _ h3).trans e1
      split at h4
      · exact ((F d).whl _ _ _ _ _ h4).trans e2
      · exact ((F d).whl _ _ _ _ _ h4).trans e2
      · cases h4; exact e2
      · cases h4; exact e2
  · dsimp only at h
    unfold forStep at h
    split at h
    · cases h
    · split at h
      · cases h; rfl
      · obtain ⟨w', τ', h3, h4⟩ := bind_ok h
        have e2 := (F d).sts _ _ _ _ h3
        split at h4
        · exact ((F d).forL _ _ _ _ _ _ _ h4).trans e2
        · exact ((F d).forL _ _ _ _ _ _ _ h4).trans e2
        · cases h4; exact e2
        · cases h4; exact e2
  · dsimp only at h
    unfold forRStep at h
    split at h
    · cases h; rfl
    · obtain ⟨w', τ', h3, h4⟩ := bind_ok h
      have e2 := (F d).sts _ _ _ _ h3
      split at h4
      · exact ((F d).forR _ _ _ _ _ _ _ h4).trans e2
      · exact ((F d).forR _ _ _ _ _ _ _ h4).trans e2
      · cases h4; exact e2
      · cases h4; exact e2
end
theorem fbp (P : Prg) : ∀ n d, Fbp (ev P n d)
  | 0, d => ⟨fun _ _ _ _ h => (nomatch h), fun _ _ _ _ h => (nomatch h), fun _ _ _ _ h => (nomatch h), fun _ _ _ _ h => (nomatch h), fun _ _ _ _ _ h => (nomatch h), fun _ _ _ _ _ h => (nomatch h), fun _ _ _ _ _ _ _ h => (nomatch h), fun _ _ _ _ _ _ _ h => (nomatch h)⟩
  | n + 1, d => fbp_step (fbp P n)
end Mine
namespace Mine
open PySem PySem.W PyProof.Rows PySem.Calls PySem.SeqAt

section
variable {G : Gl} {Φ : Fm} {d : Nat} {own : Led} {σ : St} {h h' : Heap} {m : Str → Option Value} {trk frz : Led} {s : Shared} {E : Value → Shared → Prop} {c : CC}

theorem PostS.anyE {fb : Nat} {o : Out Fl} {Q : Flow → Shared → Prop} {E' : Value → Shared → Prop} (h : PostS G Φ own fb trk frz s o Q E) : PostS G Φ own fb trk frz s o Q E' := by
  cases o with
  | ok a σ => exact h
  | exc x σ => exact fun e h' tk' m' trk' frz' x _ _ => x.elim
  | stuck => exact h

theorem PostS.seq {fb : Nat} {o : Out Fl} {k : Fl → St → Out Fl} {Q Q' : Flow → Shared → Prop} (h : PostS G Φ own fb trk frz s (o.bind k) Q E) (hl : fb ≤ trk.length)
    (step : ∀ a σ₁ b h₁ tk₁ m₁ trk₁ frz₁, o = .ok a σ₁ → Re G Φ own σ₁ h₁ m₁ trk₁ frz₁ → (trk.map (·.1)).take fb <+: trk₁.map (·.1) → (∀ q ∈ frz, q ∈ frz₁) → FlR G (trk₁.map (·.1)) frz₁ a b →
      PostS G Φ own fb trk₁ frz₁ { s with heap := h₁, toks := tk₁ } (k a σ₁) Q E → Q' b { s with heap := h₁, toks := tk₁ }) : PostS G Φ own fb trk frz s o Q' E := by
  cases o with
  | ok a σ => exact fun b h' tk' m' trk' frz' r p q v => step a σ b h' tk' m' trk' frz' rfl r p q v (PostS.later h p q hl)
  | exc x σ => exact h
  | stuck => exact h

theorem Re.fbl (r : Re G Φ own σ h m trk frz) : σ.fb ≤ trk.length := by rw [← r.len]; exact r.fb

theorem ss_nil : SSts G Φ [] (fun σ => .ok .next σ) := fun own σ s m trk frz Q E r p => wpAny_execs_nil (PostS.ret (tk := s.toks) p r .next)
theorem ss_cons {a : Stmt} {l : List Stmt} {ra rl : St → Out Fl} (ha : SSt G Φ a ra) (hl : SSts G Φ l rl) (hfb : ∀ σ v σ', ra σ = .ok v σ' → σ'.fb = σ.fb) :
    SSts G Φ (a :: l) (fun σ => (ra σ).bind fun f σ => match f with | .next => rl σ | f => .ok f σ) := by
  intro own σ s m trk frz Q E r p
  refine wpAny_execs_cons (ha own σ s m trk frz _ E r (p.seq r.fbl fun f σ₁ f' h₁ tk₁ m₁ trk₁ frz₁ ho r₁ e₁ f₁ v₁ p₁ => ?_))
  cases v₁ with
  | next =>
    refine hl own σ₁ _ m₁ trk₁ frz₁ Q E r₁ ?_
    rw [hfb σ _ σ₁ ho]; exact p₁
  | brk => exact PostS.ret (tk := tk₁) p₁ r₁ .brk
  | cont => exact PostS.ret (tk := tk₁) p₁ r₁ .cont
  | ret v => exact PostS.ret (tk := tk₁) p₁ r₁ (.ret v)

theorem s_whl {P : Prg} {n : Nat} {t : Expr} {b : List Stmt} {z : Ex} {x : List Sx} {pos : Pos} (ht : ∀ j, j < n → STs G Φ t ((ev P j d).tst z)) (hb : ∀ j, j < n → SSts G Φ b ((ev P j d).sts x)) : SSt G Φ (.While t b [] pos) ((ev P n d).whl z x) := by
  intro own σ s m trk frz Q E r p
  refine wpAny_While (codeAny_whileLoop (fun k s' => k ≤ n ∧ ∃ h₁ tk₁ m₁ trk₁ frz₁ σ₁, s' = { s with heap := h₁, toks := tk₁ } ∧ Re G Φ own σ₁ h₁ m₁ trk₁ frz₁ ∧ σ₁.fb = σ.fb ∧ PostS G Φ own σ.fb trk₁ frz₁ { s with heap := h₁, toks := tk₁ } ((ev P k d).whl z x σ₁) Q E) ?_ n
    ⟨Nat.le_refl _, s.heap, s.toks, m, trk, frz, σ, rfl, r, rfl, p⟩)
  rintro k _ ⟨hk, h₁, tk₁, m₁, trk₁, frz₁, σ₁, rfl, r₁, hf, p₁⟩
  cases k with
  | zero => exact p₁.elim
  | succ j =>
    have p₁ : PostS G Φ own σ.fb trk₁ frz₁ { s with heap := h₁, toks := tk₁ } (((ev P j d).tst z σ₁).bind fun r σ => match r with
      | false => .ok .next σ
      | true => ((ev P j d).sts x σ).bind fun f σ => match f with
        | .next => (ev P j d).whl z x σ
        | .cont => (ev P j d).whl z x σ
        | .brk => .ok .next σ
        | .ret v => .ok (.ret v) σ) Q E := p₁
    refine ht j hk own σ₁ _ m₁ trk₁ frz₁ _ _ r₁ (PostS.bind (E := notedBy (model G.prog G.w) Φ.A Φ.env fun e s' => cameBackBy (model G.prog G.w) Φ.A Φ.env E e s') p₁.anyE (fun v σ₂ v' h₂ tk₂ trk₂ frz₂ ho r₂ e₂ f₂ v₂ p₂ => ?_) (hf ▸ r₁.fbl))
    subst v₂
    have hf₂ := ((fbp P j d).tst z σ₁ v σ₂ ho).trans hf
    cases v with
    | false => exact wpAny_execs_nil (PostS.ret (tk := tk₂) p₂ r₂ .next)
    | true =>
      refine hb j hk own σ₂ _ m₁ trk₂ frz₂ _ _ r₂ ?_
      rw [hf₂]
      refine PostS.seq p₂ (hf₂ ▸ r₂.fbl) fun f σ₃ f' h₃ tk₃ m₃ trk₃ frz₃ ho₃ r₃ e₃ f₃ v₃ p₃ => ?_
      have hf₃ := ((fbp P j d).sts x σ₂ f σ₃ ho₃).trans hf₂
      cases v₃ with
      | next => exact ⟨j, Nat.lt_succ_self _, Nat.le_of_lt hk, h₃, tk₃, m₃, trk₃, frz₃, σ₃, rfl, r₃, hf₃, p₃.anyE⟩
      | cont => exact ⟨j, Nat.lt_succ_self _, Nat.le_of_lt hk, h₃, tk₃, m₃, trk₃, frz₃, σ₃, rfl, r₃, hf₃, p₃.anyE⟩
      | brk => exact PostS.ret (tk := tk₃) p₃ r₃ .next
      | ret v => exact PostS.ret (tk := tk₃) p₃ r₃ (.ret v)

theorem s_loop {x : Str} {px : Pos} {body : List Stmt} {i fb n : Nat} {it : Addr} (IT : Nat → Obj → Prop) (V : List Addr → Led → Prop) (nth : Nat → St → Option (Option AV)) (sts : Nat → St → Out Fl) (lp : Nat → Nat → St → Out Fl)
    (ok : FmOk G Φ d) (hx : Φ.ns[i]? = some x) (hl : Φ.scope.names.lookup x = some .local) (hlp0 : ∀ k σ, lp 0 k σ = .stuck)
    (hlp : ∀ j k σ, lp (j + 1) k σ = match nth k σ with
      | none => .stuck
      | some none => .ok .next σ
      | some (some y) => (sts j (setLo i y σ)).bind fun f σ => match f with
        | .next => lp j (k + 1) σ
        | .cont => lp j (k + 1) σ
        | .brk => .ok .next σ
        | .ret r => .ok (.ret r) σ)
    (hb : ∀ j, j < n → SSts G Φ body (sts j)) (hfb : ∀ j σ f σ', sts j σ = .ok f σ' → σ'.fb = σ.fb)
    (hV : ∀ ι frz ι' frz', fb ≤ ι.length → ι.take fb <+: ι' → (∀ q ∈ frz, q ∈ frz') → V ι frz → V ι' frz')
    (hitem : ∀ k σ y own (s : Shared) m trk frz o Q E, IT k o → nth k σ = some (some y) → V (trk.map (·.1)) frz → Re G Φ ((it, o) :: own) σ s.heap m trk frz →
      (∀ y' h' tk o', IT (k + 1) o' → VR G (trk.map (·.1)) frz y y' → Re G Φ ((it, o') :: own) σ h' m trk frz → Q (some y') { s with heap := h', toks := tk }) → wpAny (model G.prog G.w) Φ.A (pyNext (.ref it)) Q E s)
    (hend : ∀ k σ own (s : Shared) m trk frz o Q E, IT k o → nth k σ = some none → V (trk.map (·.1)) frz → Re G Φ ((it, o) :: own) σ s.heap m trk frz →
      (∀ h', Re G Φ own σ h' m trk frz → Q none { s with heap := h' }) → wpAny (model G.prog G.w) Φ.A (pyNext (.ref it)) Q E s)
    (own : Led) (σ : St) (s : Shared) (m : Str → Option Value) (trk frz : Led) (o : Obj) (k₀ : Nat) (Q : Flow → Shared → Prop) (E : Value → Shared → Prop) (r : Re G Φ ((it, o) :: own) σ s.heap m trk frz) (hIT : IT k₀ o) (hv : V (trk.map (·.1)) frz) (hf0 : σ.fb = fb)
    (p : PostS G Φ own fb trk frz s (lp n k₀ σ) Q E) : codeAny (model G.prog G.w) Φ.A (.forLoop (.Name x px) (.ref it) body [] Φ.env) (fun r s' => match r with | .ok f => Q f s' | .error e => cameBackBy (model G.prog G.w) Φ.A Φ.env E e s') s := by
  refine codeAny_forLoop (fun k s' => k ≤ n ∧ ∃ h₁ tk₁ m₁ trk₁ frz₁ σ₁ o₁ i₁, s' = { s with heap := h₁, toks := tk₁ } ∧ Re G Φ ((it, o₁) :: own) σ₁ h₁ m₁ trk₁ frz₁ ∧ IT i₁ o₁ ∧ V (trk₁.map (·.1)) frz₁ ∧ σ₁.fb = fb ∧ PostS G Φ own fb trk₁ frz₁ { s with heap := h₁, toks := tk₁ } (lp k i₁ σ₁) Q E) ?_ n
    ⟨Nat.le_refl _, s.heap, s.toks, m, trk, frz, σ, o, k₀, rfl, r, hIT, hv, hf0, p⟩
  rintro k _ ⟨hk, h₁, tk₁, m₁, trk₁, frz₁, σ₁, o₁, i₁, rfl, r₁, hIT₁, hv₁, hf, p₁⟩
  cases k with
  | zero => rw [hlp0] at p₁; exact p₁.elim
  | succ j =>
    rw [hlp] at p₁
    split at p₁
    · exact p₁.elim
    · rename_i hn
      refine hend i₁ σ₁ own _ m₁ trk₁ frz₁ o₁ _ _ hIT₁ hn hv₁ r₁ fun h₂ r₂ => wpAny_execs_nil ?_
      exact p₁ .next h₂ tk₁ m₁ trk₁ frz₁ r₂ (List.take_prefix _ _) (fun _ q => q) .next
    · rename_i y hn
      refine hitem i₁ σ₁ y own _ m₁ trk₁ frz₁ o₁ _ _ hIT₁ hn hv₁ r₁ fun y' h₂ tk₂ o₂ hIT₂ hy r₂ => ?_
      refine wpAny_assign_Name (stN r₂.F r₂.N (fun h₃ F₃ N₃ => ?_) ok.fn hl)
      have r₃ := r₂.store ok hx hy F₃ N₃
      refine hb j hk ((it, o₂) :: own) (setLo i y σ₁) _ _ trk₁ frz₁ _ _ r₃ ?_
      have hfs : (setLo i y σ₁).fb = fb := hf
      rw [hfs]
      have hle : fb ≤ trk₁.length := hf ▸ r₁.fbl
      revert p₁
      cases ho : sts j (setLo i y σ₁) with
      | stuck => exact fun p₁ => p₁.elim
      | exc x σ => exact fun p₁ e h' tk' m' trk' frz' x _ _ => x.elim
      | ok f σ₃ =>
        intro p₁ f' h₄ tk₄ m₄ trk₄ frz₄ r₄ e₄ f₄ v₄
        have hf₃ := (hfb j _ _ _ ho).trans hfs
        have hv₄ := hV _ _ _ _ (by simpa using hle) e₄ f₄ hv₁
        have p₂ := PostS.later (h₁ := h₄) (tk₁ := tk₄) p₁ e₄ f₄ hle
        cases v₄ with
        | next => exact ⟨j, Nat.lt_succ_self _, Nat.le_of_lt hk, h₄, tk₄, m₄, trk₄, frz₄, σ₃, o₂, i₁ + 1, rfl, r₄, hIT₂, hv₄, hf₃, p₂⟩
        | cont => exact ⟨j, Nat.lt_succ_self _, Nat.le_of_lt hk, h₄, tk₄, m₄, trk₄, frz₄, σ₃, o₂, i₁ + 1, rfl, r₄, hIT₂, hv₄, hf₃, p₂⟩
        | brk => exact PostS.ret (tk := tk₄) p₂ r₄.drop .next
        | ret v => exact PostS.ret (tk := tk₄) p₂ r₄.drop (.ret v)
end
end Mine
namespace Mine
open PySem PySem.W PyProof.Rows PySem.Calls PySem.SeqAt

section
variable {G : Gl} {Φ : Fm} {d : Nat} {own : Led} {σ : St} {h h' : Heap} {m : Str → Option Value} {trk frz : Led} {s : Shared} {E : Value → Shared → Prop} {c : CC}

theorem items_fb (v : AV) (n : Nat) : itemsOf { σ with fb := n } v = itemsOf σ v := by
  cases v <;> rfl

theorem vr_keep {v : AV} {x : Value} {fb : Nat} (hv : v.bd ≤ fb) (ι : List Addr) (frz : Led) (ι' : List Addr) (frz' : Led) (hl : fb ≤ ι.length) (hp : ι.take fb <+: ι') (hf : ∀ q ∈ frz, q ∈ frz') (h : VR G ι frz v x) : VR G ι' frz' v x :=
  (h.take hv).mono hp hf

theorem next_list {it a : Addr} {v : AV} {k : Nat} {own : Led} {o : Obj} (ok : FmOk G Φ d) (hnt : ∀ l, v ≠ .p (.tup l)) (hIT : o.cls = .type "list_iterator" ∧ o.data = .fields #[.ref a, .int k 0]) (hv : VR G (trk.map (·.1)) frz v (.ref a)) (r : Re G Φ ((it, o) :: own) σ s.heap m trk frz) {l : List AV} (hi : itemsOf σ v = some l) :
    (∀ y Q E, l[k]? = some y → (∀ y' h' tk o', (o'.cls = .type "list_iterator" ∧ o'.data = .fields #[.ref a, .int ((k + 1 : Nat) : Int) 0]) → VR G (trk.map (·.1)) frz y y' → Re G Φ ((it, o') :: own) σ h' m trk frz → Q (some y') { s with heap := h', toks := tk }) → wpAny (model G.prog G.w) Φ.A (pyNext (.ref it)) Q E s) ∧
    (∀ Q E, l[k]? = none → (∀ h', Re G Φ own σ h' m trk frz → Q none { s with heap := h' }) → wpAny (model G.prog G.w) Φ.A (pyNext (.ref it)) Q E s) := by
  have hi' : lstOf σ v = some l := by
    cases v with
    | p v => cases v <;> first | exact hi | exact absurd rfl (hnt _)
    | obj i => exact hi
    | ins C i => exact hi
  obtain ⟨a', vs, e, h1, h2⟩ := lst_at ok r hv hi'
  cases e
  have hit : s.heap.IsListIter it a k := ⟨o, r.mem_own.1, hIT⟩
  constructor
  · intro y Q E hy hQ
    obtain ⟨y', hy', hr⟩ := h1.get hy
    refine wpAny_pyNext_list_item hit h2 (by rw [List.getElem?_toArray]; exact hy') fun h₁ hit₁ hs₁ => ?_
    obtain ⟨o', ho', hc'⟩ := hit₁
    exact hQ y' h₁ s.toks o' hc' hr (r.reown hs₁.extBut ho')
  · intro Q E hy hQ
    refine wpAny_pyNext_list_end (by exact ok.hd) hit h2 ?_ fun h₁ hs₁ => hQ h₁ (r.but hs₁)
    rw [List.getElem?_toArray]
    exact List.getElem?_eq_none (by rw [← h1.length]; exact List.getElem?_eq_none_iff.mp hy)

theorem next_tuple {it a : Addr} {l : List PV} {k : Nat} {own : Led} {o : Obj} (ok : FmOk G Φ d) (hIT : o.cls = .type "tuple_iterator" ∧ o.data = .fields #[.ref a, .int k 0]) (hv : VR G (trk.map (·.1)) frz (.p (.tup l)) (.ref a)) (r : Re G Φ ((it, o) :: own) σ s.heap m trk frz) :
    (∀ y Q E, (l.map AV.p)[k]? = some y → (∀ y' h' tk o', (o'.cls = .type "tuple_iterator" ∧ o'.data = .fields #[.ref a, .int ((k + 1 : Nat) : Int) 0]) → VR G (trk.map (·.1)) frz y y' → Re G Φ ((it, o') :: own) σ h' m trk frz → Q (some y') { s with heap := h', toks := tk }) → wpAny (model G.prog G.w) Φ.A (pyNext (.ref it)) Q E s) ∧
    (∀ Q E, (l.map AV.p)[k]? = none → (∀ h', Re G Φ own σ h' m trk frz → Q none { s with heap := h' }) → wpAny (model G.prog G.w) Φ.A (pyNext (.ref it)) Q E s) := by
  obtain ⟨vs, h1, h2⟩ : ∃ vs, All2 (VR G (trk.map (·.1)) frz) (l.map AV.p) vs ∧ s.heap.IsTuple a vs.toArray := by
    cases hv with | p hv =>
      cases hv with | tup ha hc hd hr =>
        refine ⟨_, ?_, _, r.at ok ha, hc, _, hd⟩
        have up : ∀ {l : List PV} {vs : List Value}, All2 (PRel G.an G.hb frz) l vs → All2 (VR G (trk.map (·.1)) frz) (l.map .p) vs := by
          intro l vs h
          induction h with
          | nil => exact .nil
          | cons h _ ih => exact .cons (.p h) ih
        exact up hr.all2
  have hit : s.heap.IsTupleIter it a k := ⟨o, r.mem_own.1, hIT⟩
  constructor
  · intro y Q E hy hQ
    obtain ⟨y', hy', hr⟩ := h1.get hy
    refine wpAny_pyNext_tuple_item hit h2 (by rw [List.getElem?_toArray]; exact hy') fun h₁ hit₁ hs₁ => ?_
    obtain ⟨o', ho', hc'⟩ := hit₁
    exact hQ y' h₁ s.toks o' hc' hr (r.reown hs₁.extBut ho')
  · intro Q E hy hQ
    refine wpAny_pyNext_tuple_end (by exact ok.hd) hit h2 ?_ fun h₁ hs₁ => hQ h₁ (r.but hs₁)
    rw [List.getElem?_toArray]
    exact List.getElem?_eq_none (by rw [← h1.length]; exact List.getElem?_eq_none_iff.mp hy)

theorem forL_eq {P : Prg} {x : Nat} {v : AV} {b : List Sx} (j k : Nat) (σ : St) : (ev P (j + 1) d).forL x v k b σ = match (itemsOf σ v).map (·[k]?) with
      | none => .stuck
      | some none => .ok .next σ
      | some (some y) => ((ev P j d).sts b (setLo x y σ)).bind fun f σ => match f with
        | .next => (ev P j d).forL x v (k + 1) b σ
        | .cont => (ev P j d).forL x v (k + 1) b σ
        | .brk => .ok .next σ
        | .ret r => .ok (.ret r) σ := by
  show forStep (ev P j) d x v k b σ = _
  unfold forStep
  cases itemsOf σ v with
  | none => rfl
  | some l =>
    show (match l[k]? with | none => _ | some y => _) = match some l[k]? with | none => _ | some none => _ | some (some y) => _
    cases l[k]? <;> rfl

theorem PostS.raise {fb fb' : Nat} {o : Out Fl} {Q : Flow → Shared → Prop} (h : PostS G Φ own fb trk frz s (o.bind fun f τ => .ok f { τ with fb := fb }) Q E) (hle : fb ≤ fb') (ho : ∀ f τ, o = .ok f τ → τ.fb = fb') : PostS G Φ own fb' trk frz s o Q E := by
  cases o with
  | ok f τ =>
    intro b h' tk' m' trk' frz' r p q v
    refine h b h' tk' m' trk' frz' ⟨r.F, r.N, r.nd, r.hp, r.bd, r.hw, r.lo, ?_⟩ (List.IsPrefix.trans (List.take_prefix_take_left hle) p) q v
    have := ho f τ rfl
    have := r.fb
    show fb ≤ τ.hp.length
    omega
  | exc x σ => exact fun e h' tk' m' trk' frz' x _ _ => x.elim
  | stuck => exact h

theorem ss_forL {P : Prg} {n : Nat} {nm : Str} {pn : Pos} {e : Expr} {b : List Stmt} {x : Ex} {y : List Sx} {pos : Pos} {i : Nat} {re : St → Out AV} (ok : FmOk G Φ d) (hn : Φ.ns[i]? = some nm) (hl : Φ.scope.names.lookup nm = some .local) (hc : Cm c e x) (he : SEx G Φ e re) (hfb : ∀ σ v σ', re σ = .ok v σ' → σ'.fb = σ.fb)
    (hb : ∀ j, j < n → SSts G Φ b ((ev P j d).sts y)) :
    SSt G Φ (.For (.Name nm pn) e b [] pos) (fun σ => (re σ).bind fun v σ => ((ev P n d).forL i v 0 y { σ with fb := Nat.max σ.fb v.bd }).bind fun f τ => .ok f { τ with fb := σ.fb }) := by
  intro own σ s m trk frz Q E r p
  refine wpAny_For (he own σ s m trk frz _ E r (p.bind (fun v σ₁ v' h₁ tk₁ trk₁ frz₁ ho r₁ e₁ f₁ v₁ p₁ => ?_) r.fbl)) (hc.fold _)
  have hf := hfb σ v σ₁ ho
  rw [← hf] at p₁
  have p₂ := p₁.raise (fb' := Nat.max σ₁.fb v.bd) (Nat.le_max_left _ _) fun f τ h => (fbp P n d).forL _ _ _ _ _ _ _ h
  have hbd : v.bd ≤ trk₁.length := by have := v₁.bd_le; simpa using this
  have r₂ : Re G Φ own { σ₁ with fb := Nat.max σ₁.fb v.bd } h₁ m trk₁ frz₁ := ⟨r₁.F, r₁.N, r₁.nd, r₁.hp, r₁.bd, r₁.hw, r₁.lo, by
    have := r₁.fb; have := r₁.len; show Nat.max σ₁.fb v.bd ≤ σ₁.hp.length; exact Nat.max_le.mpr ⟨by omega, by omega⟩⟩
  cases n with
  | zero => exact p₂.elim
  | succ n =>
    cases hi : itemsOf σ₁ v with
    | none =>
      rw [forL_eq, items_fb, hi] at p₂
      exact p₂.elim
    | some l =>
      by_cases hnt : ∀ l, v ≠ .p (.tup l)
      · have hi' : lstOf σ₁ v = some l := by
          cases v with
          | p v => cases v <;> first | exact hi | exact absurd rfl (hnt _)
          | obj i => exact hi
          | ins C i => exact hi
        obtain ⟨a, vs, rfl, h1, h2⟩ := lst_at ok r₁ v₁ hi'
        refine wpAny_pyIter_list h2 ?_
        refine s_loop (it := h₁.objs.size) (fb := Nat.max σ₁.fb v.bd) (fun k o => o.cls = .type "list_iterator" ∧ o.data = .fields #[.ref a, .int k 0]) (fun ι frz => VR G ι frz v (.ref a)) (fun k σ => (itemsOf σ v).map (·[k]?)) (fun j => (ev P j d).sts y) (fun j k σ => (ev P j d).forL i v k y σ)
          ok hn hl (fun k σ => rfl) (fun j k σ => forL_eq j k σ) hb (fun j σ f σ' h => (fbp P j d).sts _ _ _ _ h) (vr_keep (Nat.le_max_right _ _)) ?_ ?_ own _ _ m trk₁ frz₁ _ 0 Q E r₂.pushO ⟨rfl, rfl⟩ v₁ rfl (p₂.later (List.take_prefix _ _) (fun _ q => q) r₂.fbl)
        · intro k σ y own s m trk frz o Q E hIT hk hv r hQ
          cases hi : itemsOf σ v with
          | none => rw [hi] at hk; cases hk
          | some l =>
            rw [hi] at hk
            exact (next_list ok hnt hIT hv r hi).1 y Q E (by cases hk' : l[k]? <;> simp [hk'] at hk ⊢; exact hk) hQ
        · intro k σ own s m trk frz o Q E hIT hk hv r hQ
          cases hi : itemsOf σ v with
          | none => rw [hi] at hk; cases hk
          | some l =>
            rw [hi] at hk
            exact (next_list ok hnt hIT hv r hi).2 Q E (by cases hk' : l[k]? <;> simp [hk'] at hk ⊢) hQ
      · have : ∃ l, v = .p (.tup l) := by
          refine Classical.byContradiction fun hno => hnt fun l e => hno ⟨l, e⟩
        obtain ⟨l', rfl⟩ := this
        obtain ⟨a, rfl⟩ : ∃ a, v' = .ref a := by cases v₁ with | p v => cases v with | tup _ _ _ _ => exact ⟨_, rfl⟩
        have h2 : ∃ its, h₁.IsTuple a its := by
          cases v₁ with | p v => cases v with | tup ha hc hd _ => exact ⟨_, _, r₁.at ok ha, hc, _, hd⟩
        obtain ⟨its, h2⟩ := h2
        refine wpAny_pyIter_tuple h2 ?_
        refine s_loop (it := h₁.objs.size) (fb := Nat.max σ₁.fb (AV.p (.tup l')).bd) (fun k o => o.cls = .type "tuple_iterator" ∧ o.data = .fields #[.ref a, .int k 0]) (fun ι frz => VR G ι frz (.p (.tup l')) (.ref a)) (fun k σ => (itemsOf σ (.p (.tup l'))).map (·[k]?)) (fun j => (ev P j d).sts y) (fun j k σ => (ev P j d).forL i (.p (.tup l')) k y σ)
          ok hn hl (fun k σ => rfl) (fun j k σ => forL_eq j k σ) hb (fun j σ f σ' h => (fbp P j d).sts _ _ _ _ h) (vr_keep (Nat.le_max_right _ _)) ?_ ?_ own _ _ m trk₁ frz₁ _ 0 Q E r₂.pushO ⟨rfl, rfl⟩ v₁ rfl (p₂.later (List.take_prefix _ _) (fun _ q => q) r₂.fbl)
        · intro k σ y own s m trk frz o Q E hIT hk hv r hQ
          refine (next_tuple ok hIT hv r).1 y Q E ?_ hQ
          have hk : some (l'.map AV.p)[k]? = some (some y) := hk
          exact Option.some.inj hk
        · intro k σ own s m trk frz o Q E hIT hk hv r hQ
          refine (next_tuple ok hIT hv r).2 Q E ?_ hQ
          have hk : some (l'.map AV.p)[k]? = some none := hk
          exact Option.some.inj hk

theorem Post.monoQ {α β : Type} {R : List Addr → Led → α → β → Prop} {o : Out α} {Q Q' : β → Shared → Prop} (h : Post R G Φ own m trk frz s o Q E) (k : ∀ b s', Q b s' → Q' b s') : Post R G Φ own m trk frz s o Q' E := by
  cases o with
  | ok a σ => exact fun b h' tk' trk' frz' r p q v => k _ _ (h b h' tk' trk' frz' r p q v)
  | exc x σ => exact h
  | stuck => exact h
theorem sxs_one {e : Expr} {x : Ex} {re : St → Out AV} (pos : Pos) (hc : Cm c e x) (he : SEx G Φ e re) (own : Led) (σ : St) (s : Shared) (m : Str → Option Value) (trk frz : Led) (Q : List Value → Shared → Prop) (E : Value → Shared → Prop) (r : Re G Φ own σ s.heap m trk frz) (p : Post (VR G) G Φ own m trk frz s (re σ) (fun v' s' => Q [v'] s') E) :
    wpAny (model G.prog G.w) Φ.A (spliced (backTo pos (starEach [e] Φ.env))) Q E s := by
  rw [hc.star]
  exact spliced_cons (he own σ s m trk frz _ E r (p.monoQ fun v s' h => spliced_nil h))

theorem forR_eq {P : Prg} {x : Nat} {n : Nat} {b : List Sx} (j k : Nat) (σ : St) : (ev P (j + 1) d).forR x n k b σ = match some (match Nat.blt k n with | true => some (AV.p (.int k)) | false => none) with
      | none => .stuck
      | some none => .ok .next σ
      | some (some y) => ((ev P j d).sts b (setLo x y σ)).bind fun f σ => match f with
        | .next => (ev P j d).forR x n (k + 1) b σ
        | .cont => (ev P j d).forR x n (k + 1) b σ
        | .brk => .ok .next σ
        | .ret r => .ok (.ret r) σ := by
  show forRStep (ev P j) d x n k b σ = _
  unfold forRStep
  cases Nat.blt k n <;> rfl

theorem ss_forR {P : Prg} {n : Nat} {nm r : Str} {pn rp cp : Pos} {e : Expr} {b : List Stmt} {x : Ex} {y : List Sx} {pos : Pos} {i : Nat} {re : St → Out AV} (ok : FmOk G Φ d) (hn : Φ.ns[i]? = some nm) (hl : Φ.scope.names.lookup nm = some .local)
    (hk : Φ.scope.names.lookup r = some .globalImplicit) (hd : (r == ("__debug__" : Str)) = false) (hv : nsIn G.K mainGlobals r = some none) (hbt : bootBuiltins r = some (.type "range")) (hnn : r ≠ "__name__")
    (hc : Cm c e x) (he : SEx G Φ e re) (hfb : ∀ σ v σ', re σ = .ok v σ' → σ'.fb = σ.fb)
    (hb : ∀ j, j < n → SSts G Φ b ((ev P j d).sts y)) :
    SSt G Φ (.For (.Name nm pn) (.Call (.Name r rp) [e] [] cp) b [] pos) (fun σ => (re σ).bind fun v σ => (match v with | .p (.int k) => (match smallI k && Nat.blt k.toNat 1000000 with | true => (ev P n d).forR i k.toNat 0 y σ | false => .stuck) | _ => .stuck)) := by
  intro own σ s m trk frz Q E rr p
  have hcs : Cms c [e] [x] := .cons hc .nil
  refine wpAny_For ?_ (fun _ => rfl)
  show wpAny _ _ (eval (.Name r rp) Φ.env >>= fun g => callWith cp g [] (backTo cp (starEach [e] Φ.env)) []) _ E s
  refine wpAny_bind (name_B rr.F ok.X (topRead_of ok.T) hv hbt hnn ?_ ok.fn hk hd)
  refine callWith_of (P := fun _ => True) (by rw [nostar hcs]; rfl) (keeps_plain (by intro a e; cases e)) (args_of hcs (sxs_one cp hc he own σ s m trk frz _ E rr ?_))
  refine p.bind (fun v σ₁ v' h₁ tk₁ trk₁ frz₁ ho r₁ e₁ f₁ v₁ p₁ => ⟨trivial, ?_⟩) rr.fbl
  have hf := hfb σ v σ₁ ho
  split at p₁
  · rename_i k
    split at p₁
    · rename_i hs
      simp only [Bool.and_eq_true] at hs
      have hs1 := hs.1
      have hs2 := Nat.le_of_ble_eq_true hs.2
      have hs1 := small_le hs1
      cases v₁ with | p v₁ =>
        cases v₁ with | int _ t =>
          refine call_range_1 ?_
          have ra := r₁.pushO (o := { cls := .type "range", data := .fields #[.int 0 tk₁, .int k t, .int 1 (tk₁ + 1)] })
          refine wpAny_pyIter_range (IsRange.new _ _ _ _ _ _ _) (small_one (by decide) (by decide) (by omega) (by omega)) ?_
          have hsz : Builtin.Range.rangeSize 0 k 1 = (k.toNat : Int) := by
            rw [rangeSize_one]; split <;> omega
          rw [hsz]
          have rb := ra.pushO (o := { cls := .type "range_iterator", data := .fields #[rawInt 0, rawInt (k.toNat : Int), rawInt 1] })
          rw [← hf] at p₁
          refine s_loop (fb := σ₁.fb) (fun j o => j ≤ k.toNat ∧ o = { cls := .type "range_iterator", dict := none, data := .fields #[rawInt (j : Int), rawInt ((k.toNat : Int) - j), rawInt 1], slots := #[] }) (fun _ _ => True) (fun j σ => some (match Nat.blt j k.toNat with | true => some (AV.p (.int j)) | false => none)) (fun j => (ev P j d).sts y) (fun j q σ => (ev P j d).forR i k.toNat q y σ)
            ok hn hl (fun k σ => rfl) (fun j k σ => forR_eq j k σ) hb (fun j σ f σ' h => (fbp P j d).sts _ _ _ _ h) (fun _ _ _ _ _ _ _ _ => trivial) ?_ ?_ (_ :: own) σ₁ _ m trk₁ frz₁ _ 0 Q E rb ⟨Nat.zero_le _, by simp⟩ trivial rfl ?_
          · intro j σ y own s m trk frz o Q E hIT hj hv r hQ
            obtain ⟨hle, rfl⟩ := hIT
            cases hjl : Nat.blt j k.toNat with
            | false => rw [hjl] at hj; cases hj
            | true =>
              rw [hjl] at hj
              cases hj
              have hjl := Nat.le_of_ble_eq_true hjl
              refine wpAny_pyNext_range_item r.mem_own.1 (by omega) fun h₁ hit₁ hs₁ => ?_
              refine hQ _ h₁ _ _ ⟨hjl, rfl⟩ (.p (.int _ _)) (r.reown hs₁.extBut ?_)
              rw [hit₁]
              have e1 : ((j : Int) + 1) = ((j + 1 : Nat) : Int) := by omega
              have e2 : (k.toNat : Int) - (j : Int) - 1 = (k.toNat : Int) - ((j + 1 : Nat) : Int) := by omega
              rw [e1, e2]
          · intro j σ own s m trk frz o Q E hIT hj hv r hQ
            obtain ⟨hle, rfl⟩ := hIT
            cases hjl : Nat.blt j k.toNat with
            | true => rw [hjl] at hj; cases hj
            | false =>
              have hjl := X.blt_false hjl
              exact wpAny_pyNext_range_end (by exact ok.hd) r.mem_own.1 (by omega) fun h₁ hs₁ => hQ h₁ (r.but hs₁)
          · have p₂ := p₁.later (h₁ := (h₁.push { cls := .type "range", data := .fields #[.int 0 tk₁, .int k t, .int 1 (tk₁ + 1)] }).push { cls := .type "range_iterator", data := .fields #[rawInt 0, rawInt (k.toNat : Int), rawInt 1] }) (tk₁ := tk₁ + 1 + 1) (List.take_prefix _ _) (fun _ q => q) r₁.fbl
            revert p₂
            show PostS G Φ own σ₁.fb trk₁ frz₁ _ ((ev P n d).forR i k.toNat 0 y σ₁) Q E → PostS G Φ (_ :: own) σ₁.fb trk₁ frz₁ _ ((ev P n d).forR i k.toNat 0 y σ₁) Q E
            generalize (ev P n d).forR i k.toNat 0 y σ₁ = o
            intro p₂
            cases o with
            | ok f τ => exact fun b h' tk' m' trk' frz' r p q v => p₂ b h' tk' m' trk' frz' r.drop p q v
            | exc x σ => exact fun e h' tk' m' trk' frz' x _ _ => x.elim
            | stuck => exact p₂
    · exact p₁.elim
  · exact p₁.elim
end
end Mine
namespace Mine
open PySem PySem.W PyProof.Rows PySem.Calls PySem.SeqAt

section
variable {G : Gl} {Φ : Fm} {d : Nat} {own : Led} {σ : St} {h h' : Heap} {m : Str → Option Value} {trk frz : Led} {s : Shared} {E : Value → Shared → Prop} {c : CC}

theorem st_bool {op : BoolOp} {l : List Expr} {pos : Pos} {r : St → Out Bool} (h : STs G Φ (.BoolOp op l pos) r) (whole : Sem Value) : ∀ own σ s m trk frz Q E, Re G Φ own σ s.heap m trk frz → Post BR G Φ own m trk frz s (r σ) Q E → wpAny (model G.prog G.w) Φ.A (isTrue (.BoolOp op l pos) Φ.env whole) Q E s := h

theorem st_last_and {a : Expr} {pos : Pos} {r : St → Out Bool} (h : STs G Φ a r) (whole : Sem Value) : ∀ own σ s m trk frz Q E, Re G Φ own σ s.heap m trk frz → Post BR G Φ own m trk frz s (r σ) Q E → wpAny (model G.prog G.w) Φ.A (isTrue (.BoolOp .And [a] pos) Φ.env whole) Q E s := by
  intro own σ s m trk frz Q E r p
  refine isTrue_and (h own σ s m trk frz _ E r (p.monoQ fun b s' h' => ?_))
  cases b with
  | true => exact isTrue_and_nil h'
  | false => exact h'
theorem st_last_or {a : Expr} {pos : Pos} {r : St → Out Bool} (h : STs G Φ a r) (whole : Sem Value) : ∀ own σ s m trk frz Q E, Re G Φ own σ s.heap m trk frz → Post BR G Φ own m trk frz s (r σ) Q E → wpAny (model G.prog G.w) Φ.A (isTrue (.BoolOp .Or [a] pos) Φ.env whole) Q E s := by
  intro own σ s m trk frz Q E r p
  refine isTrue_or (h own σ s m trk frz _ E r (p.monoQ fun b s' h' => ?_))
  cases b with
  | true => exact h'
  | false => exact isTrue_or_nil h'

theorem sc_lt : SCmp G Φ .Lt (fun x y _ => match x, y with | .p (.int a), .p (.int b) => cmpI .lt a b | _, _ => none) := sc_int fun a b t u k s Q E e q => by cases e; exact lt_int q
theorem sc_le : SCmp G Φ .LtE (fun x y _ => match x, y with | .p (.int a), .p (.int b) => cmpI .le a b | _, _ => none) := sc_int fun a b t u k s Q E e q => by cases e; exact le_int q
theorem sc_gt : SCmp G Φ .Gt (fun x y _ => match x, y with | .p (.int a), .p (.int b) => cmpI .gt a b | _, _ => none) := sc_int fun a b t u k s Q E e q => by cases e; exact gt_int q
theorem sc_ge : SCmp G Φ .GtE (fun x y _ => match x, y with | .p (.int a), .p (.int b) => cmpI .ge a b | _, _ => none) := sc_int fun a b t u k s Q E e q => by cases e; exact ge_int q
end
end Mine
namespace Mine
open PySem PySem.W PyProof.Rows PySem.Calls PySem.SeqAt

structure SndF (G : Gl) (P : Prg) (n d : Nat) (Φ : Fm) : Prop where
  ex : ∀ e x, Cm (Φ.cc G) e x → SEx G Φ e ((ev P n d).ex x)
  exs : ∀ e x, Cms (Φ.cc G) e x → SExs G Φ e ((ev P n d).exs x)
  tst : ∀ e x, Cm (Φ.cc G) e x → STs G Φ e ((ev P n d).tst x)
  sts : ∀ e x, Cts (Φ.cc G) e x → SSts G Φ e ((ev P n d).sts x)
structure Snd (G : Gl) (P : Prg) (n : Nat) : Prop where
  fm : ∀ d Φ, FmOk G Φ d → SndF G P n d Φ
  call : ∀ d, SCl G d ((ev P n d).call)

section
variable {G : Gl} {Φ : Fm} {d n : Nat} {P : Prg}

theorem sf_of {b : BF} {v : Value} (ok : FmOk G Φ d) (h : BFv b v) : SFn G Φ v [] (bfun b) := by
  cases h with
  | len => exact sf_len ok
  | tuple => exact sf_tuple ok
  | _ => intro own σ s m trk frz Q E vs vs' r hv p; unfold bfun at p; exact p.elim
theorem sm_of {b : BM} (ok : FmOk G Φ d) : SMt G Φ b := by
  cases b with
  | append => exact sm_append ok
  | count => exact sm_count
  | rfind => exact sm_rfind
  | find => exact sm_find
  | startswith => exact sm_startswith
  | rstrip => exact sm_rstrip
  | _ => intro own σ s m trk frz Q E x x' vs vs' r vx hv p; unfold bmeth at p; exact p.elim

theorem snd_ex (S : Snd G P n) (ok : FmOk G Φ d) : ∀ e x, Cm (Φ.cc G) e x → SEx G Φ e ((ev P (n + 1) d).ex x) := by
  intro e x hc
  have F := S.fm d Φ ok
  cases hc with
  | cnone => exact sx_none
  | cbool => exact sx_bool
  | cint => exact sx_int
  | cstr h => subst h; exact sx_str
  | loc a b c => exact sx_loc ok a b c
  | glob a b c e => exact sx_glob ok a b c e
  | add a b => exact sx_bin (F.ex _ _ a) (F.ex _ _ b) (sb_add ok)
  | sub a b => exact sx_bin (F.ex _ _ a) (F.ex _ _ b) sb_sub
  | mul a b => exact sx_bin (F.ex _ _ a) (F.ex _ _ b) (sb_mul ok)
  | fdiv a b => exact sx_bin (F.ex _ _ a) (F.ex _ _ b) sb_fdiv
  | mod a b => exact sx_bin (F.ex _ _ a) (F.ex _ _ b) sb_mod
  | eq a b => exact sx_cmp (b.marks _) (F.ex _ _ a) (F.ex _ _ b) (sc_eq ok)
  | ne a b => exact sx_cmp (b.marks _) (F.ex _ _ a) (F.ex _ _ b) (sc_ne ok)
  | lt a b => exact sx_cmp (b.marks _) (F.ex _ _ a) (F.ex _ _ b) sc_lt
  | le a b => exact sx_cmp (b.marks _) (F.ex _ _ a) (F.ex _ _ b) sc_le
  | gt a b => exact sx_cmp (b.marks _) (F.ex _ _ a) (F.ex _ _ b) sc_gt
  | ge a b => exact sx_cmp (b.marks _) (F.ex _ _ a) (F.ex _ _ b) sc_ge
  | isin a b => exact sx_cmp (b.marks _) (F.ex _ _ a) (F.ex _ _ b) (sc_in ok)
  | notin a b => exact sx_cmp (b.marks _) (F.ex _ _ a) (F.ex _ _ b) (sc_notin ok)
  | is a b => exact sx_cmp (b.marks _) (F.ex _ _ a) (F.ex _ _ b) sc_is
  | isnot a b => exact sx_cmp (b.marks _) (F.ex _ _ a) (F.ex _ _ b) sc_isnot
  | not a => exact sx_not ok (F.ex _ _ a)
  | neg a => exact sx_neg (F.ex _ _ a)
  | and2 a b => exact sx_and ok (F.ex _ _ a) (sx_one (F.ex _ _ b))
  | and3 a b => exact sx_and ok (F.ex _ _ a) (F.ex _ _ b)
  | or2 a b => exact sx_or ok (F.ex _ _ a) (sx_one (F.ex _ _ b))
  | or3 a b => exact sx_or ok (F.ex _ _ a) (F.ex _ _ b)
  | ite a b c => exact sx_ite (F.tst _ _ a) (F.ex _ _ b) (F.ex _ _ c)
  | tup a => exact sx_tup (F.exs _ _ a)
  | lst a => exact sx_lst (F.exs _ _ a)
  | att a b c => exact fun own σ s m trk frz Q E r p => p.elim
  | idx a b => exact sx_idx ok b (F.ex _ _ a) (F.ex _ _ b)
  | sli_n a b => exact sx_sli ok (F.ex _ _ a) so_none (so_some (F.ex _ _ b))
  | sli_s a b => exact sx_sli ok (F.ex _ _ a) (so_some (F.ex _ _ b)) so_none
  | sli_ss a b c => exact sx_sli ok (F.ex _ _ a) (so_some (F.ex _ _ b)) (so_some (F.ex _ _ c))
  | callf a b c e f => exact sx_callf ok a b c e f (F.exs _ _ f) (S.call d)
  | new a b c e f => exact fun own σ s m trk frz Q E r p => p.elim
  | bf a b c e f g h => exact sx_bf ok a b c e f g h (F.exs _ _ h) (sf_of ok g)
  | bm a b c e f g h => exact sx_bm ok b e f g h (F.ex _ _ a) (F.exs _ _ h) (sm_of ok)
  | meth a b c e f g => exact fun own σ s m trk frz Q E r p => p.elim

theorem snd_exs (S : Snd G P n) (ok : FmOk G Φ d) : ∀ e x, Cms (Φ.cc G) e x → SExs G Φ e ((ev P (n + 1) d).exs x) := by
  intro e x hc
  have F := S.fm d Φ ok
  cases hc with
  | nil => exact sxs_nil
  | cons a b => exact sxs_cons (a.star _ _) (F.ex _ _ a) (F.exs _ _ b)

theorem snd_tst (S : Snd G P n) (ok : FmOk G Φ d) : ∀ e x, Cm (Φ.cc G) e x → STs G Φ e ((ev P (n + 1) d).tst x) := by
  intro e x hc
  have F := S.fm d Φ ok
  have he := F.ex _ _ hc
  cases hc with
  | not a => exact st_not (F.tst _ _ a)
  | and2 a b => exact st_and (F.tst _ _ a) (fun w => st_last_and (F.tst _ _ b) w) _
  | and3 a b => exact st_and (F.tst _ _ a) (fun w => st_bool (F.tst _ _ b) w) _
  | or2 a b => exact st_or (F.tst _ _ a) (fun w => st_last_or (F.tst _ _ b) w) _
  | or3 a b => exact st_or (F.tst _ _ a) (fun w => st_bool (F.tst _ _ b) w) _
  | ite a b c => exact fun own σ s m trk frz Q E r p => p.elim
  | eq _ _ => exact st_plain ok he fun Q E s h => isTrue_of_cmp h
  | ne _ _ => exact st_plain ok he fun Q E s h => isTrue_of_cmp h
  | lt _ _ => exact st_plain ok he fun Q E s h => isTrue_of_cmp h
  | le _ _ => exact st_plain ok he fun Q E s h => isTrue_of_cmp h
  | gt _ _ => exact st_plain ok he fun Q E s h => isTrue_of_cmp h
  | ge _ _ => exact st_plain ok he fun Q E s h => isTrue_of_cmp h
  | isin _ _ => exact st_plain ok he fun Q E s h => isTrue_of_cmp h
  | notin _ _ => exact st_plain ok he fun Q E s h => isTrue_of_cmp h
  | is _ _ => exact st_plain ok he fun Q E s h => isTrue_of_cmp h
  | isnot _ _ => exact st_plain ok he fun Q E s h => isTrue_of_cmp h
  | _ => exact st_plain ok he fun Q E s h => isTrue_plain h

theorem snd_st (S : ∀ j, j ≤ n → Snd G P j) (ok : FmOk G Φ d) : ∀ e x, Ct (Φ.cc G) e x → SSt G Φ e (stStep (ev P n) d x) := by
  intro e x hc
  have F := (S n (Nat.le_refl _)).fm d Φ ok
  have fex : ∀ x, ∀ σ v σ', (ev P n d).ex x σ = .ok v σ' → σ'.fb = σ.fb := fun x σ v σ' h => (fbp P n d).ex x σ v σ' h
  cases hc with
  | expr a => exact ss_expr a (F.ex _ _ a) (fex _) ok.fn
  | asg a b c => exact ss_asg ok a b c (F.ex _ _ c) (fex _)
  | asgA a b c => exact fun own σ s m trk frz Q E r p => p.elim
  | ite a b c => exact ss_ite (F.tst _ _ a) (F.sts _ _ b) (F.sts _ _ c) fun σ v σ' h => (fbp P n d).tst _ σ v σ' h
  | whl a b => exact s_whl (fun j hj => ((S j (Nat.le_of_lt hj)).fm d Φ ok).tst _ _ a) (fun j hj => ((S j (Nat.le_of_lt hj)).fm d Φ ok).sts _ _ b)
  | forL a b c e => exact ss_forL ok a b c (F.ex _ _ c) (fex _) (fun j hj => ((S j (Nat.le_of_lt hj)).fm d Φ ok).sts _ _ e)
  | forR a b c e f g h i j => exact ss_forR ok a b c e f g h i (F.ex _ _ i) (fex _) (fun k hk => ((S k (Nat.le_of_lt hk)).fm d Φ ok).sts _ _ j)
  | ret a => exact ss_ret (F.ex _ _ a)
  | ret0 => exact ss_ret0
  | pass => exact ss_pass
  | brk => exact ss_brk
  | cont => exact ss_cont

theorem snd_sts (S : ∀ j, j ≤ n → Snd G P j) (ok : FmOk G Φ d) : ∀ e x, Cts (Φ.cc G) e x → SSts G Φ e ((ev P (n + 1) d).sts x) := by
  intro e x hc
  have F := (S n (Nat.le_refl _)).fm d Φ ok
  cases hc with
  | nil => exact ss_nil
  | cons a b => exact ss_cons (snd_st S ok _ _ a) (F.sts _ _ b) fun σ v σ' h => stStep_fb (fbp P n) h

theorem snd (hfn : FnsOk G P) (n : Nat) : Snd G P n := by
  induction n using Nat.strongRecOn with
  | ind n ih =>
    cases n with
    | zero =>
      refine ⟨fun d Φ ok => ⟨fun _ _ _ own σ s m trk frz Q E r p => p.elim, fun _ _ _ pos own σ s m trk frz Q E r p => p.elim, fun _ _ _ own σ s m trk frz Q E r p => p.elim, fun _ _ _ own σ s m trk frz Q E r p => p.elim⟩, fun d => ?_⟩
      intro Φ d₀ A ok hA hdp hun hh f vs vs' own σ s m trk frz R r hv p
      exact p.elim
    | succ n =>
      have S : ∀ j, j ≤ n → Snd G P j := fun j hj => ih j (Nat.lt_succ_of_le hj)
      refine ⟨fun d Φ ok => ⟨snd_ex (S n (Nat.le_refl _)) ok, snd_exs (S n (Nat.le_refl _)) ok, snd_tst (S n (Nat.le_refl _)) ok, snd_sts S ok⟩, fun d => ?_⟩
      cases d with
      | zero =>
        intro Φ d₀ A ok hA hdp hun hh f vs vs' own σ s m trk frz R r hv p
        exact p.elim
      | succ d => exact scall_step hfn fun Φ ok => ((S n (Nat.le_refl _)).fm d Φ ok).sts
end
end Mine
namespace Mine
open PySem PySem.W PyProof.Rows PySem.Calls PySem.SeqAt

def idxS (x : Str) : List Str → Option Nat
  | [] => none
  | y :: r => match x == y with
    | true => some 0
    | false => (match idxS x r with | some k => some (k + 1) | none => none)
theorem idxS_sound {x : Str} : ∀ {l : List Str} {i : Nat}, idxS x l = some i → l[i]? = some x
  | y :: r, i, h => by
    unfold idxS at h
    split at h
    · rename_i e
      cases h
      have : x = y := by simpa using e
      subst this; rfl
    · split at h
      · rename_i k hk
        cases h
        have := idxS_sound (l := r) hk
        simpa using this
      · cases h

def abOk : Expr → Bool
  | .Call (.Name _ _) [] [] _ => false
  | _ => true
theorem abOk_sound {a : Expr} {n : Str} (h : abOk a = true) (env : Env) (w : Sem Value) : attributeBase a n env w = w := by
  unfold attributeBase
  split
  · cases h
  · rfl

def compL {α β : Type} (f : α → Option β) : List α → Option (List β)
  | [] => some []
  | a :: r => match f a with
    | none => none
    | some x => (match compL f r with | some l => some (x :: l) | none => none)

def isLoc (c : CC) (x : Str) : Bool := match c.scope.names.lookup x with
  | some .local => true
  | _ => false
def isGlob (c : CC) (x : Str) : Bool := match c.scope.names.lookup x with
  | some .globalImplicit => !(x == ("__debug__" : Str))
  | _ => false
theorem isLoc_sound {c : CC} {x : Str} (h : isLoc c x = true) : c.scope.names.lookup x = some .local := by
  unfold isLoc at h
  split at h
  · assumption
  · cases h
theorem isGlob_sound {c : CC} {x : Str} (h : isGlob c x = true) : c.scope.names.lookup x = some .globalImplicit ∧ (x == ("__debug__" : Str)) = false := by
  unfold isGlob at h
  split at h
  · exact ⟨by assumption, by simpa using h⟩
  · cases h

def bfOf : Value → Option BF
  | .builtin id => match id == "len" with
    | true => some .len
    | false => (match id == "max" with | true => some .max | false => none)
  | .type t => match t == "list" with
    | true => some .list
    | false => (match t == "tuple" with
      | true => some .tuple
      | false => (match t == "str" with | true => some .str | false => (match t == "int" with | true => some .int | false => none)))
  | _ => none
theorem bfOf_sound {v : Value} {b : BF} (h : bfOf v = some b) : BFv b v := by
  unfold bfOf at h
  split at h
  · split at h
    · rename_i e; cases h; rw [eq_of_beq e]; exact .len
    · split at h <;> cases h; rename_i e; rw [eq_of_beq e]; exact .max
  · split at h
    · rename_i e; cases h; rw [eq_of_beq e]; exact .list
    · split at h
      · rename_i e; cases h; rw [eq_of_beq e]; exact .tuple
      · split at h
        · rename_i e; cases h; rw [eq_of_beq e]; exact .str
        · split at h <;> cases h; rename_i e; rw [eq_of_beq e]; exact .int
  · cases h

def bmAll : List BM := [.append, .pop, .extend, .join, .startswith, .split, .rstrip, .count, .rfind, .find]
def bmOf (n : Str) : List BM → Option BM
  | [] => none
  | b :: r => match n == b.name with
    | true => some b
    | false => bmOf n r
theorem bmOf_sound {n : Str} : ∀ {l : List BM} {b : BM}, bmOf n l = some b → n = b.name
  | x :: r, b, h => by
    unfold bmOf at h
    split at h
    · rename_i e; cases h; exact eq_of_beq e
    · exact bmOf_sound h

def compC (c : CC) (x : Str) (l : List Ex) : Option Ex := match isGlob c x with
  | false => none
  | true => match nsIn c.K mainGlobals x with
    | some (some (.ref f)) => (match keepIn c.K (.ref f) with
      | true => (match fnIn c.K f with | true => some (.callf f l) | false => some (.new f l))
      | false => none)
    | some none => (match bootBuiltins x with
      | some v => (match bfOf v, x == ("__name__" : Str) with
        | some b, false => some (.bf b l)
        | _, _ => none)
      | none => none)
    | _ => none

def compM (c : CC) (a : Expr) (x : Ex) (n : Str) (ap pos : Pos) (k : Nat) (l : List Ex) : Option Ex := match abOk a && (ap.endLine == pos.line) && Nat.blt k 29 with
  | false => none
  | true => match idxS n c.an with
    | none => none
    | some i => match bmOf n bmAll with
      | some b => some (.meth x i (some b) l)
      | none => some (.meth x i none l)

def compB (op : Operator) (x y : Ex) : Option Ex := match op with
  | .Add => some (.bin .add x y)
  | .Sub => some (.bin .sub x y)
  | .Mult => some (.bin .mul x y)
  | .FloorDiv => some (.bin .fdiv x y)
  | .Mod => some (.bin .mod x y)
  | _ => none
def compP (op : CmpOp) (x y : Ex) : Option Ex := match op with
  | .Eq => some (.cmp .eq x y)
  | .NotEq => some (.cmp .ne x y)
  | .Lt => some (.cmp .lt x y)
  | .LtE => some (.cmp .le x y)
  | .Gt => some (.cmp .gt x y)
  | .GtE => some (.cmp .ge x y)
  | .In => some (.cmp .isin x y)
  | .NotIn => some (.cmp .notin x y)
  | .Is => some (.cmp .is x y)
  | .IsNot => some (.cmp .isnot x y)
def compK : Const → Option PV
  | .none => some .none
  | .bool b => some (.bool b)
  | .int i => some (.int i)
  | .str s => some (.str s.cps.toList)
  | _ => none
def compN (c : CC) (x : Str) : Option Ex := match isLoc c x with
  | true => (match x == ("__debug__" : Str), idxS x c.ns with | false, some i => some (.loc i) | _, _ => none)
  | false => match isGlob c x with
    | false => none
    | true => match nsIn c.K mainGlobals x with
      | some (some v) => (match pvK c.K 9 v with | some pv => some (.cst pv) | none => none)
      | _ => none

def two (f : Ex → Ex → Option Ex) : Option Ex → Option Ex → Option Ex
  | some x, some y => f x y
  | _, _ => none

def compE (c : CC) : Nat → Expr → Option Ex
  | 0, _ => none
  | n + 1, e => match e with
    | .Constant k _ _ => (match compK k with | some pv => some (.cst pv) | none => none)
    | .Name x _ => compN c x
    | .BinOp a op b _ => two (compB op) (compE c n a) (compE c n b)
    | .Compare a [op] [b] _ => two (compP op) (compE c n a) (compE c n b)
    | .UnaryOp .Not a _ => (match compE c n a with | some x => some (.not x) | none => none)
    | .UnaryOp .USub a _ => (match compE c n a with | some x => some (.neg x) | none => none)
    | .BoolOp .And [a, b] _ => two (fun x y => some (.and x y)) (compE c n a) (compE c n b)
    | .BoolOp .And (a :: b :: e :: l) pos => two (fun x y => some (.and x y)) (compE c n a) (compE c n (.BoolOp .And (b :: e :: l) pos))
    | .BoolOp .Or [a, b] _ => two (fun x y => some (.or x y)) (compE c n a) (compE c n b)
    | .BoolOp .Or (a :: b :: e :: l) pos => two (fun x y => some (.or x y)) (compE c n a) (compE c n (.BoolOp .Or (b :: e :: l) pos))
    | .IfExp t a b _ => (match compE c n t with | some z => two (fun x y => some (.ite z x y)) (compE c n a) (compE c n b) | none => none)
    | .Tuple l _ _ => (match compL (compE c n) l with | some l => some (.tup l) | none => none)
    | .List l _ => (match compL (compE c n) l with | some l => some (.lst l) | none => none)
    | .Subscript a (.Slice none (some b) none _) _ => two (fun x y => some (.sli x none (some y))) (compE c n a) (compE c n b)
    | .Subscript a (.Slice (some b) none none _) _ => two (fun x y => some (.sli x (some y) none)) (compE c n a) (compE c n b)
    | .Subscript a (.Slice (some b) (some e) none _) _ => (match compE c n a with | some x => two (fun y z => some (.sli x (some y) (some z))) (compE c n b) (compE c n e) | none => none)
    | .Subscript a b _ => two (fun x y => some (.idx x y)) (compE c n a) (compE c n b)
    | .Attribute a m _ => (match compE c n a, idxS m c.an, abOk a with | some x, some i, true => some (.att x i) | _, _, _ => none)
    | .Call (.Name x _) args [] _ => (match compL (compE c n) args with | some l => compC c x l | none => none)
    | .Call (.Attribute a m ap) args [] pos => (match compE c n a, compL (compE c n) args with | some x, some l => compM c a x m ap pos args.length l | _, _ => none)
    | _ => none

section
variable {c : CC}
theorem compL_sound {f : Expr → Option Ex} (hf : ∀ e x, f e = some x → Cm c e x) : ∀ {l : List Expr} {r : List Ex}, compL f l = some r → Cms c l r
  | [], r, h => by cases h; exact .nil
  | a :: l, r, h => by
    unfold compL at h
    split at h
    · cases h
    · rename_i x hx
      split at h
      · rename_i t ht; cases h; exact .cons (hf _ _ hx) (compL_sound hf ht)
      · cases h

theorem two_inv {f : Ex → Ex → Option Ex} {p q : Option Ex} {z : Ex} (h : two f p q = some z) : ∃ x y, p = some x ∧ q = some y ∧ f x y = some z := by
  cases p with
  | none => cases h
  | some x => cases q with
    | none => cases h
    | some y => exact ⟨x, y, rfl, rfl, h⟩

theorem compK_sound {k : Const} {pv : PV} {u : Nat} {pos : Pos} (h : compK k = some pv) : Cm c (.Constant k u pos) (.cst pv) := by
  unfold compK at h
  split at h <;> cases h
  · exact .cnone
  · exact .cbool
  · exact .cint
  · exact .cstr (by simp)

theorem compC_sound {x : Str} {fp pos : Pos} {args : List Expr} {l : List Ex} {z : Ex} (hl : Cms c args l) (h : compC c x l = some z) : Cm c (.Call (.Name x fp) args [] pos) z := by
  unfold compC at h
  split at h
  · cases h
  · rename_i hg
    obtain ⟨h1, h2⟩ := isGlob_sound hg
    split at h
    · rename_i f hf
      split at h
      · rename_i hk
        split at h
        · cases h; exact .callf h1 h2 hf hk hl
        · cases h; exact .new h1 h2 hf hk hl
      · cases h
    · rename_i hn
      split at h
      · rename_i v hv
        split at h
        · rename_i b hb hx
          cases h
          exact .bf h1 h2 hn hv (by simpa using hx) (bfOf_sound hb) hl
        · cases h
      · cases h
    · cases h

theorem compM_sound {a : Expr} {x : Ex} {n : Str} {ap pos : Pos} {args : List Expr} {l : List Ex} {z : Ex} (ha : Cm c a x) (hl : Cms c args l) (h : compM c a x n ap pos args.length l = some z) : Cm c (.Call (.Attribute a n ap) args [] pos) z := by
  unfold compM at h
  split at h
  · cases h
  · rename_i hg
    simp only [Bool.and_eq_true] at hg
    split at h
    · cases h
    · rename_i i hi
      split at h
      · rename_i b hb; cases h; exact .bm ha (bmOf_sound hb) (idxS_sound hi) (abOk_sound hg.1.1) hg.1.2 hg.2 hl
      · cases h; exact .meth ha (idxS_sound hi) (abOk_sound hg.1.1) hg.1.2 hg.2 hl

theorem compE_sound : ∀ (n : Nat) (e : Expr) (x : Ex), compE c n e = some x → Cm c e x
  | 0, _, _, h => by cases h
  | n + 1, e, x, h => by
    have ih := compE_sound n
    unfold compE at h
    split at h
    · split at h
      · rename_i hk; cases h; exact compK_sound hk
      · cases h
    · unfold compN at h
      split at h
      · rename_i hl
        split at h
        · rename_i i hd hi; cases h; exact .loc (idxS_sound hi) (isLoc_sound hl) hd
        · cases h
      · split at h
        · cases h
        · rename_i hg
          obtain ⟨h1, h2⟩ := isGlob_sound hg
          split at h
          · rename_i v hv
            split at h
            · rename_i pv hp; cases h; exact .glob h1 h2 hv hp
            · cases h
          · cases h
    · obtain ⟨x, y, h1, h2, h3⟩ := two_inv h
      have a := ih _ _ h1
      have b := ih _ _ h2
      unfold compB at h3
      split at h3 <;> cases h3
      · exact .add a b
      · exact .sub a b
      · exact .mul a b
      · exact .fdiv a b
      · exact .mod a b
    · obtain ⟨x, y, h1, h2, h3⟩ := two_inv h
      have a := ih _ _ h1
      have b := ih _ _ h2
      unfold compP at h3
      split at h3 <;> cases h3
      · exact .eq a b
      · exact .ne a b
      · exact .lt a b
      · exact .le a b
      · exact .gt a b
      · exact .ge a b
      · exact .isin a b
      · exact .notin a b
      · exact .is a b
      · exact .isnot a b
    · split at h <;> cases h; rename_i h1; exact .not (ih _ _ h1)
    · split at h <;> cases h; rename_i h1; exact .neg (ih _ _ h1)
    · obtain ⟨x, y, h1, h2, h3⟩ := two_inv h; cases h3; exact .and2 (ih _ _ h1) (ih _ _ h2)
    · obtain ⟨x, y, h1, h2, h3⟩ := two_inv h; cases h3; exact .and3 (ih _ _ h1) (ih _ _ h2)
    · obtain ⟨x, y, h1, h2, h3⟩ := two_inv h; cases h3; exact .or2 (ih _ _ h1) (ih _ _ h2)
    · obtain ⟨x, y, h1, h2, h3⟩ := two_inv h; cases h3; exact .or3 (ih _ _ h1) (ih _ _ h2)
    · split at h
      · rename_i z hz
        obtain ⟨x, y, h1, h2, h3⟩ := two_inv h; cases h3; exact .ite (ih _ _ hz) (ih _ _ h1) (ih _ _ h2)
      · cases h
    · split at h <;> cases h; rename_i h1; exact .tup (compL_sound ih h1)
    · split at h <;> cases h; rename_i h1; exact .lst (compL_sound ih h1)
    · obtain ⟨x, y, h1, h2, h3⟩ := two_inv h; cases h3; exact .sli_n (ih _ _ h1) (ih _ _ h2)
    · obtain ⟨x, y, h1, h2, h3⟩ := two_inv h; cases h3; exact .sli_s (ih _ _ h1) (ih _ _ h2)
    · split at h
      · rename_i x hx
        obtain ⟨y, z, h1, h2, h3⟩ := two_inv h; cases h3; exact .sli_ss (ih _ _ hx) (ih _ _ h1) (ih _ _ h2)
      · cases h
    · obtain ⟨x, y, h1, h2, h3⟩ := two_inv h; cases h3; exact .idx (ih _ _ h1) (ih _ _ h2)
    · split at h <;> cases h; rename_i h1 h2 h3; exact .att (ih _ _ h1) (idxS_sound h2) (abOk_sound h3)
    · split at h
      · rename_i l hl; exact compC_sound (compL_sound ih hl) h
      · cases h
    · split at h
      · rename_i x l hx hl; exact compM_sound (ih _ _ hx) (compL_sound ih hl) h
      · cases h
    · cases h
end

def isRange (c : CC) (r : Str) : Bool := match isGlob c r, nsIn c.K mainGlobals r, bootBuiltins r, r == ("__name__" : Str) with
  | true, some none, some (.type t), false => t == "range"
  | _, _, _, _ => false

def compS (c : CC) : Nat → Stmt → Option Sx
  | 0, _ => none
  | n + 1, s => match s with
    | .Expr e _ => (match compE c n e with | some x => some (.expr x) | none => none)
    | .Assign [.Name x _] e _ => (match isLoc c x, idxS x c.ns, compE c n e with | true, some i, some y => some (.asg i y) | _, _, _ => none)
    | .Assign [.Attribute o m _] e _ => (match compE c n o, idxS m c.an, compE c n e with | some y, some i, some x => some (.asgA y i x) | _, _, _ => none)
    | .If t a b _ => (match compE c n t, compL (compS c n) a, compL (compS c n) b with | some z, some x, some y => some (.ite z x y) | _, _, _ => none)
    | .While t a [] _ => (match compE c n t, compL (compS c n) a with | some z, some x => some (.whl z x) | _, _ => none)
    | .For (.Name x _) (.Call (.Name r rp) [e] [] cp) b [] _ => (match isLoc c x, idxS x c.ns, compL (compS c n) b with
      | true, some i, some y => (match isRange c r with
        | true => (match compE c n e with | some z => some (.forR i z y) | none => none)
        | false => (match compE c n (.Call (.Name r rp) [e] [] cp) with | some z => some (.forL i z y) | none => none))
      | _, _, _ => none)
    | .For (.Name x _) e b [] _ => (match isLoc c x, idxS x c.ns, compL (compS c n) b, compE c n e with
      | true, some i, some y, some z => some (.forL i z y)
      | _, _, _, _ => none)
    | .Return (some e) _ => (match compE c n e with | some x => some (.ret x) | none => none)
    | .Return none _ => some .ret0
    | .Pass _ => some .pass
    | .Break _ => some .brk
    | .Continue _ => some .cont
    | _ => none

section
variable {c : CC}
theorem compLS_sound {f : Stmt → Option Sx} (hf : ∀ e x, f e = some x → Ct c e x) : ∀ {l : List Stmt} {r : List Sx}, compL f l = some r → Cts c l r
  | [], r, h => by cases h; exact .nil
  | a :: l, r, h => by
    unfold compL at h
    split at h
    · cases h
    · rename_i x hx
      split at h
      · rename_i t ht; cases h; exact .cons (hf _ _ hx) (compLS_sound hf ht)
      · cases h
theorem isRange_sound {r : Str} (h : isRange c r = true) : (c.scope.names.lookup r = some .globalImplicit ∧ (r == ("__debug__" : Str)) = false) ∧ nsIn c.K mainGlobals r = some none ∧ bootBuiltins r = some (.type "range") ∧ r ≠ "__name__" := by
  unfold isRange at h
  split at h
  · rename_i h1 h2 h3 h4
    refine ⟨isGlob_sound h1, h2, ?_, by simpa using h4⟩
    rw [h3, eq_of_beq h]
  · cases h
theorem compS_sound : ∀ (n : Nat) (s : Stmt) (x : Sx), compS c n s = some x → Ct c s x
  | 0, _, _, h => by cases h
  | n + 1, s, x, h => by
    have ih := compS_sound n
    have ie := compE_sound (c := c) n
    unfold compS at h
    split at h
    · split at h <;> cases h; rename_i h1; exact .expr (ie _ _ h1)
    · split at h <;> cases h; rename_i h1 h2 h3; exact .asg (idxS_sound h2) (isLoc_sound h1) (ie _ _ h3)
    · split at h <;> cases h; rename_i h1 h2 h3; exact .asgA (ie _ _ h1) (idxS_sound h2) (ie _ _ h3)
    · split at h <;> cases h; rename_i h1 h2 h3; exact .ite (ie _ _ h1) (compLS_sound ih h2) (compLS_sound ih h3)
    · split at h <;> cases h; rename_i h1 h2; exact .whl (ie _ _ h1) (compLS_sound ih h2)
    · split at h
      · rename_i h1 h2 h3
        split at h
        · rename_i hr
          obtain ⟨⟨a, b⟩, e, f, g⟩ := isRange_sound hr
          split at h <;> cases h
          rename_i h4
          exact .forR (idxS_sound h2) (isLoc_sound h1) a b e f g (ie _ _ h4) (compLS_sound ih h3)
        · split at h <;> cases h
          rename_i h4
          exact .forL (idxS_sound h2) (isLoc_sound h1) (ie _ _ h4) (compLS_sound ih h3)
      · cases h
    · split at h <;> cases h; rename_i h1 h2 h3 h4; exact .forL (idxS_sound h2) (isLoc_sound h1) (ie _ _ h4) (compLS_sound ih h3)
    · split at h <;> cases h; rename_i h1; exact .ret (ie _ _ h1)
    · cases h; exact .ret0
    · cases h; exact .pass
    · cases h; exact .brk
    · cases h; exact .cont
    · cases h
end
end Mine
namespace Mine
open PySem PySem.W PyProof.Rows PySem.Calls PySem.SeqAt

theorem fmap_congr {α β : Type} {f g : α → Option β} : ∀ {l : List α}, (∀ a ∈ l, f a = g a) → l.filterMap f = l.filterMap g
  | [], _ => rfl
  | a :: l, h => by rw [List.filterMap_cons, List.filterMap_cons, h a (.head _), fmap_congr fun b hb => h b (.tail _ hb)]
theorem lookup_zipF : ∀ {ns : List Str} {vs : List Value}, ns.length = vs.length → ns.Nodup → ns.filterMap (fun n => ((ns.zip vs).lookup n).map (n, ·)) = ns.zip vs ∧ ∀ n ∈ ns, ((ns.zip vs).lookup n).isNone = false := by
  intro ns
  induction ns with
  | nil => intro vs h _; cases vs <;> simp_all
  | cons x r ih =>
    intro vs h nd
    cases vs with
    | nil => simp at h
    | cons v t =>
      have nd' := List.nodup_cons.mp nd
      obtain ⟨h1, h2⟩ := ih (vs := t) (by simpa using h) nd'.2
      have hne : ∀ n ∈ r, (n == x) = false := by
        intro n hn
        cases e : n == x with
        | false => rfl
        | true => rw [eq_of_beq e] at hn; exact absurd hn nd'.1
      constructor
      · rw [List.zip_cons_cons, List.filterMap_cons]
        simp only [List.lookup_cons_self, Option.map_some]
        congr 1
        refine Eq.trans (fmap_congr fun n hn => ?_) h1
        rw [List.lookup_cons, hne n hn]
      · intro n hn
        rw [List.zip_cons_cons, List.lookup_cons]
        cases e : n == x with
        | true => rfl
        | false =>
          rcases List.mem_cons.mp hn with rfl | hn
          · simp at e
          · exact h2 n hn

theorem bind_plain {fd : FuncData} {vals : List Value} (h1 : fd.params.posonlyargs = []) (h2 : fd.params.kwonlyargs = []) (h3 : fd.params.vararg = none) (h4 : fd.params.kwarg = none) (h5 : fd.defaults = .none) (nd : (fd.params.args.map (·.arg)).Nodup)
    (hl : vals.length = (fd.params.args.map (·.arg)).length) : bindArgs fd ⟨vals, []⟩ = pure ((fd.params.args.map (·.arg)).zip vals) := by
  have hz := lookup_zipF hl.symm nd
  have hm : ((fd.params.args.map (·.arg)).filter fun n => (((fd.params.args.map (·.arg)).zip vals).lookup n).isNone) = [] := by
    rw [List.filter_eq_nil_iff]
    intro n hn
    rw [hz.2 n hn]; simp
  unfold bindArgs
  simp only [h1, h2, h3, h4, h5, List.map_nil, List.nil_append, List.append_nil]
  have pb : ∀ {α β : Type} (a : α) (f : α → Sem β), ((pure a : Sem α) >>= f) = f a := fun a f => rfl
  have hsi : seqItems? Value.none = pure none := by kernel_rfl
  have hgt : ¬ vals.length > (fd.params.args.map (·.arg)).length := by omega
  simp only [hsi, List.forIn_nil, pb, Option.getD_none, List.length_nil, List.drop_nil, Nat.zero_sub, Nat.sub_zero, List.zip_nil_right, hgt, decide_false, Bool.false_and, Bool.false_eq_true, if_false, List.take_length, hm, List.isEmpty_nil, Bool.not_true, hz.1]

def nodupS : List Str → Bool
  | [] => true
  | x :: r => !(r.any fun y => x == y) && nodupS r
theorem nodupS_sound : ∀ {l : List Str}, nodupS l = true → l.Nodup
  | [], _ => List.nodup_nil
  | x :: r, h => by
    simp only [nodupS, Bool.and_eq_true, Bool.not_eq_true', List.any_eq_false] at h
    refine List.nodup_cons.mpr ⟨fun hm => ?_, nodupS_sound h.2⟩
    exact h.1 x hm (by simp)

def locsOf (sc : Scope) : List Str := sc.names.filterMap fun x => match x.2 with | .local => some x.1 | _ => none
def eqS : List Str → List Str → Bool
  | [], [] => true
  | x :: r, y :: t => x == y && eqS r t
  | _, _ => false
theorem eqS_sound : ∀ {l r : List Str}, eqS l r = true → l = r
  | [], [], _ => rfl
  | [], _ :: _, h => by cases h
  | _ :: _, [], h => by cases h
  | x :: r, y :: t, h => by
    simp only [eqS, Bool.and_eq_true] at h
    rw [eq_of_beq h.1, eqS_sound h.2]
def isFn (sc : Scope) : Bool := (match sc.kind with | .function => true | _ => false) && !sc.isCoroutine && !sc.isGenerator && sc.names.all fun x => match x.2 with | .cell => false | _ => true
theorem isFn_sound {sc : Scope} (h : isFn sc = true) : sc.kind = .function ∧ sc.isCoroutine = false ∧ sc.isGenerator = false ∧ ∀ x ∈ sc.names, x.2 ≠ .cell := by
  simp only [isFn, Bool.and_eq_true, Bool.not_eq_true', List.all_eq_true] at h
  refine ⟨?_, h.1.1.2, h.1.2, fun x hx e => ?_⟩
  · cases hk : sc.kind <;> rw [hk] at h <;> first | rfl | exact absurd h.1.1.1 (by simp)
  · have := h.2 x hx
    rw [e] at this
    cases this
def plainPar (p : Arguments) : Bool := p.posonlyargs.isEmpty && p.kwonlyargs.isEmpty && p.vararg.isNone && p.kwarg.isNone

def compF (K : Frag) (an : List Str) (n : Nat) (f : Addr) : Option Fd := match K.lookup f with
  | some ⟨_, _, .func ⟨name, qual, params, .stmts body, scope, g, [], .none, _, _, _, _, cdv, _, b⟩, _⟩ =>
    (match Nat.beq g mainGlobals && Nat.beq b builtinsNs && codeIn K cdv qual && plainPar params && isFn scope && nodupS (locsOf scope) && eqS (params.args.map (·.arg)) ((locsOf scope).take params.args.length) && ((locsOf scope).take params.args.length).all (fun x => isLoc ⟨K, scope, [], []⟩ x) with
    | true => (match compL (compS ⟨K, scope, locsOf scope, an⟩ n) body with
      | some l => some ⟨params.args.length, (locsOf scope).length, l⟩
      | none => none)
    | false => none)
  | _ => none

theorem locs_mem {sc : Scope} {x : Str} (h : x ∈ locsOf sc) : ∃ k, (x, k) ∈ sc.names := by
  obtain ⟨y, hy, e⟩ := List.mem_filterMap.mp h
  split at e
  · cases e; exact ⟨y.2, hy⟩
  · cases e

theorem compF_sound {G : Gl} {n : Nat} {f : Addr} {fd : Fd} (h : compF G.K G.an n f = some fd) : ∃ W : FnW G f fd, FnOk G f fd W := by
  unfold compF at h
  split at h
  · rename_i oc od name qual params body scope g kV doc pm ann cdv ct b osl ho
    split at h
    · rename_i hc
      simp only [Bool.and_eq_true] at hc
      obtain ⟨⟨⟨⟨⟨⟨⟨hg, hb⟩, hcd⟩, hp⟩, hf⟩, hnd⟩, he⟩, hlk⟩ := hc
      split at h
      · rename_i l hl
        cases h
        have hg := Nat.eq_of_beq_eq_true hg
        have hb := Nat.eq_of_beq_eq_true hb
        subst hg hb
        obtain ⟨f1, f2, f3, f4⟩ := isFn_sound hf
        have he := eqS_sound he
        have hnd := nodupS_sound hnd
        simp only [plainPar, Bool.and_eq_true, List.isEmpty_iff, Option.isNone_iff_eq_none] at hp
        refine ⟨⟨name, qual, params, body, scope, .none, kV, doc, pm, cdv, ct, oc, ann, od, osl, locsOf scope⟩, ?_⟩
        have hlen : params.args.length ≤ (locsOf scope).length := by
          have := congrArg List.length he
          simp only [List.length_map, List.length_take] at this
          omega
        exact {
          at_ := ho
          code := hcd
          bind := fun vals hv => by
            have nd : (params.args.map (·.arg)).Nodup := by rw [he]; exact hnd.sublist (List.take_sublist _ _)
            have := bind_plain (fd := fnOf name qual params body scope .none kV doc pm ann cdv ct) (vals := vals) hp.1.1.1 hp.1.1.2 hp.1.2 hp.2 rfl nd (by simpa using hv)
            rw [this]
            show pure ((params.args.map (·.arg)).zip vals) = _
            rw [he]
          kind := f1
          co := f2
          gen := f3
          cell := f4
          loc := fun x hx => isLoc_sound (List.all_eq_true.mp hlk x hx)
          nd := hnd
          len := rfl
          par := hlen
          cts := compLS_sound (compS_sound n) hl }
      · cases h
    · cases h
  · cases h
theorem fnsOk_of {G : Gl} {P : Prg} (n : Nat) (h : ∀ q ∈ P.fns, compF G.K G.an n q.1 = some q.2) : FnsOk G P := by
  intro f fd e
  have : (f, fd) ∈ P.fns := by
    revert h e
    generalize P.fns = l
    intro h e
    induction l with
    | nil => cases e
    | cons q r ih =>
      unfold lookN at e
      split at e
      · rename_i hq
        cases e
        have := Nat.eq_of_beq_eq_true hq
        subst this
        exact .head _
      · exact .tail _ (ih (fun q hq => h q (.tail _ hq)) e)
  exact compF_sound (h _ this)
end Mine
namespace Mine
open PySem PySem.W PyProof.Rows PySem.Calls PySem.SeqAt

def gaveTrue : Out Fl → Bool
  | .ok (.ret (.p (.bool true))) _ => true
  | _ => false
theorem gaveTrue_inv {o : Out Fl} (h : gaveTrue o = true) : ∃ σ, o = .ok (.ret (.p (.bool true))) σ := by
  unfold gaveTrue at h
  split at h
  · exact ⟨_, rfl⟩
  · cases h

theorem ints_rel {an : List Str} {hb : Heap} {frz : Led} {vs : List Value} {zs : List Int} (h : IntsAre vs zs) : PRels an hb frz (zs.map .int) vs := by
  induction h with
  | nil => exact .nil
  | cons => rename_i ih; exact .cons (.int _ _) ih

theorem law_join {prog : Program} {w : World} {K : Frag} {p : Program} {loose : List Str} {mean : ExcName → Option Value} {mg mb : Str → Option Value} {s₁ : Shared} {an : List Str} {P : Prg} {ns : List Str} {x : Str} {body : List Stmt} {scope : Scope} {qual : Str} {fa a : Addr} {cdv : Value} {vs : List Value} {zs : List Int} {h₁ : Heap} {tk : Nat} {base : Heap} {lb : List Sx}
    {R : Result → Shared → Prop} {E : Value → Shared → Prop} (n N d k : Nat)
    (T : Top p loose mean mg mb s₁.heap) (K0 : Below callerA base [] s₁.heap) (KX : K.In s₁.heap) (hL : s₁.heap.IsList a vs.toArray) (hI : IntsAre vs zs)
    (F : Fr s₁.heap s₁.heap.objs.size h₁ (fun y => List.lookup y [(x, Value.ref a)].reverse))
    (hd : d ≤ 400) (hns : ns[0]? = some x) (hnd : nodupS ns = true) (hk : isFn scope = true)
    (hfn : ∀ q ∈ P.fns, compF K an n q.1 = some q.2) (hc : compL (compS ⟨K, scope, ns, an⟩ n) body = some lb)
    (hev : gaveTrue ((ev P N d).sts lb ⟨[], 0, 0, some (.p (.lst (zs.map .int))) :: List.replicate k none⟩) = true)
    (hR : ∀ h' tk', (∀ b o, s₁.heap.get? b = some o → h'.get? b = some o) → R (.ok (.ret (.bool true))) { s₁ with heap := h', toks := tk' }) :
    wpAny (model prog w) (callerA.deeper (envOf qual scope s₁.heap.objs.size fa cdv)) (execs body (envOf qual scope s₁.heap.objs.size fa cdv)) (fun fl s' => R (.ok (.ret (match fl with | .ret v => v | _ => .none))) s') E { s₁ with heap := h₁, toks := tk } := by
  have ok : FmOk ⟨prog, w, K, p, loose, mean, mg, mb, s₁.heap, an⟩ ⟨callerA, base, s₁.heap, [], s₁.heap.objs.size, fa, qual, scope, cdv, ns⟩ d :=
    ⟨K0, KX, T, fun _ _ e => e, KX, (isFn_sound hk).1, by
      show callerA.depth + 1 + d < recursionLimit
      have : callerA.depth = 301 := by decide +kernel
      have : recursionLimit = 1000 := by decide +kernel
      omega, by
      show callerA.units + 3 + 20 * (d + 1) < cLine
      have : callerA.units = 4 := rfl
      have : cLine = 9900 := by decide +kernel
      omega, rfl, nodupS_sound hnd⟩
  have S := (snd (fnsOk_of (G := ⟨prog, w, K, p, loose, mean, mg, mb, s₁.heap, an⟩) (P := P) n hfn) N).fm d _ ok
  have hs := S.sts body lb (compLS_sound (compS_sound n) hc)
  obtain ⟨σ', hσ⟩ := gaveTrue_inv hev
  obtain ⟨o, ho, hcl, nn, hdt⟩ := hL
  refine hs [] ⟨[], 0, 0, some (.p (.lst (zs.map .int))) :: List.replicate k none⟩ _ _ [] [] _ E ⟨F, News.nil, by simp, .nil, fun _ _ e => by simp at e, Nat.le_refl _, fun i v e => ?_, Nat.le_refl _⟩ ?_
  · cases i with
    | zero =>
      cases e
      refine ⟨x, .ref a, hns, ?_, .p (.lst (.inl ho) hcl hdt (ints_rel hI))⟩
      show List.lookup x [(x, Value.ref a)] = _
      simp
    | succ i =>
      simp only [List.getElem?_cons_succ, List.getElem?_replicate] at e
      split at e <;> cases e
  · rw [hσ]
    intro fl h' tk' m' trk' frz' r _ _ v
    cases v with
    | ret v => cases v with | p v => cases v; exact hR h' tk' r.F.keep
end Mine
namespace Mine
open PySem PySem.W PyProof.Rows PySem.Calls PySem.SeqAt

/-- more fuel, no other answer -/
def Out.le {α : Type} (o o' : Out α) : Prop := o = .stuck ∨ o = o'
theorem Out.le.refl {α : Type} (o : Out α) : o.le o := .inr rfl
theorem Out.le.bind {α β : Type} {o o' : Out α} {k k' : α → St → Out β} (h : o.le o') (hk : ∀ a σ, (k a σ).le (k' a σ)) : (o.bind k).le (o'.bind k') := by
  rcases h with rfl | rfl
  · exact .inl rfl
  · cases o with
    | ok a σ => exact hk a σ
    | exc x σ => exact .inr rfl
    | stuck => exact .inl rfl

structure Le (v w : Ev) : Prop where
  ex : ∀ e σ, (v.ex e σ).le (w.ex e σ)
  exs : ∀ e σ, (v.exs e σ).le (w.exs e σ)
  tst : ∀ e σ, (v.tst e σ).le (w.tst e σ)
  sts : ∀ e σ, (v.sts e σ).le (w.sts e σ)
  call : ∀ f l σ, (v.call f l σ).le (w.call f l σ)
  whl : ∀ c b σ, (v.whl c b σ).le (w.whl c b σ)
  forL : ∀ x y k b σ, (v.forL x y k b σ).le (w.forL x y k b σ)
  forR : ∀ x n k b σ, (v.forR x n k b σ).le (w.forR x n k b σ)

section
variable {P : Prg} {ih jh : Nat → Ev} {d : Nat}
theorem stStep_le (F : ∀ d, Le (ih d) (jh d)) (s : Sx) (σ : St) : (stStep ih d s σ).le (stStep jh d s σ) := by
  have F := F d
  cases s with
  | expr e => exact (F.ex e σ).bind fun _ _ => .refl _
  | asg i e => exact (F.ex e σ).bind fun _ _ => .refl _
  | ite c a b => exact (F.tst c σ).bind fun r σ => by cases r <;> exact F.sts _ _
  | whl c b => exact F.whl c b σ
  | forL x e b => exact (F.ex e σ).bind fun v σ => (F.forL _ _ _ _ _).bind fun _ _ => .refl _
  | forR x e b =>
    exact (F.ex e σ).bind fun v σ => by
      split
      · split
        · exact F.forR _ _ _ _ _
        · exact .refl _
      · exact .refl _
  | ret e => exact (F.ex e σ).bind fun _ _ => .refl _
  | _ => exact .refl _

theorem opt_le (F : ∀ d, Le (ih d) (jh d)) (e : Option Ex) (σ : St) : (optStep ih d e σ).le (optStep jh d e σ) := by
  cases e with
  | none => exact .refl _
  | some e => exact ((F d).ex e σ).bind fun _ _ => .refl _

theorem le_step (F : ∀ d, Le (ih d) (jh d)) : Le ⟨exStep P ih d, exsStep ih d, tstStep ih d, stsStep ih d, callStep P ih d, whlStep ih d, forStep ih d, forRStep ih d⟩ ⟨exStep P jh d, exsStep jh d, tstStep jh d, stsStep jh d, callStep P jh d, whlStep jh d, forStep jh d, forRStep jh d⟩ := by
  have G := F
  have F := F d
  refine ⟨fun e σ => ?_, fun e σ => ?_, fun e σ => ?_, fun e σ => ?_, fun f l σ => ?_, fun c b σ => ?_, fun x v k b σ => ?_, fun x n k b σ => ?_⟩
  · cases e with
    | bin o a b => exact (F.ex a σ).bind fun x σ => (F.ex b σ).bind fun y σ => .refl _
    | cmp o a b => exact (F.ex a σ).bind fun x σ => (F.ex b σ).bind fun y σ => .refl _
    | not a => exact (F.ex a σ).bind fun x σ => .refl _
    | neg a => exact (F.ex a σ).bind fun x σ => .refl _
    | and a b =>
      exact (F.ex a σ).bind fun x σ => by
        split
        · exact F.ex _ _
        · exact .refl _
        · exact .refl _
    | or a b =>
      exact (F.ex a σ).bind fun x σ => by
        split
        · exact .refl _
        · exact F.ex _ _
        · exact .refl _
    | ite c a b => exact (F.tst c σ).bind fun r σ => by cases r <;> exact F.ex _ _
    | tup l => exact (F.exs l σ).bind fun x σ => .refl _
    | lst l => exact (F.exs l σ).bind fun x σ => .refl _
    | idx a b => exact (F.ex a σ).bind fun x σ => (F.ex b σ).bind fun y σ => .refl _
    | sli e lo hi => exact (F.ex e σ).bind fun x σ => (opt_le G lo σ).bind fun y σ => (opt_le G hi σ).bind fun z σ => .refl _
    | callf f l => exact (F.exs l σ).bind fun x σ => F.call _ _ _
    | bf b l => exact (F.exs l σ).bind fun x σ => .refl _
    | meth e n b l =>
      cases b with
      | none => exact .refl _
      | some b =>
        exact (F.ex e σ).bind fun x σ => by
          split
          · exact (F.exs l σ).bind fun y σ => .refl _
          · exact .refl _
    | _ => exact .refl _
  · cases e with
    | nil => exact .refl _
    | cons e r => exact (F.ex e σ).bind fun x σ => (F.exs r σ).bind fun y σ => .refl _
  · cases e with
    | not a => exact (F.tst a σ).bind fun x σ => .refl _
    | and a b =>
      exact (F.tst a σ).bind fun r σ => by
        cases r
        · exact .refl _
        · exact F.tst _ _
    | or a b =>
      exact (F.tst a σ).bind fun r σ => by
        cases r
        · exact F.tst _ _
        · exact .refl _
    | ite _ _ _ => exact .refl _
    | _ => exact (F.ex _ σ).bind fun x σ => .refl _
  · cases e with
    | nil => exact .refl _
    | cons s r =>
      exact (stStep_le G s σ).bind fun f σ => by
        cases f
        · exact F.sts _ _
        all_goals exact .refl _
  · cases d with
    | zero => exact .refl _
    | succ d =>
      dsimp only
      simp only [callStep]
      split
      · exact .refl _
      · split
        · exact .refl _
        · rename_i fd _ _ _
          rcases (G d).sts fd.body ⟨σ.hp, σ.hw, σ.hp.length, l.map some ++ List.replicate (fd.nloc - fd.npar) none⟩ with h | h
          · exact .inl (by rw [h])
          · exact .inr (by rw [h])
  · exact (F.tst c σ).bind fun r σ => by
      cases r
      · exact .refl _
      · exact (F.sts b σ).bind fun f σ => by
          cases f
          · exact F.whl _ _ _
          · exact .refl _
          · exact F.whl _ _ _
          · exact .refl _
  · dsimp only
    simp only [forStep]
    split
    · exact .refl _
    · split
      · exact .refl _
      · exact (F.sts b _).bind fun f σ => by
          cases f
          · exact F.forL _ _ _ _ _
          · exact .refl _
          · exact F.forL _ _ _ _ _
          · exact .refl _
  · dsimp only
    simp only [forRStep]
    split
    · exact .refl _
    · exact (F.sts b _).bind fun f σ => by
        cases f
        · exact F.forR _ _ _ _ _
        · exact .refl _
        · exact F.forR _ _ _ _ _
        · exact .refl _
end
theorem ev_le (P : Prg) : ∀ n d, Le (ev P n d) (ev P (n + 1) d)
  | 0, d => ⟨fun _ _ => .inl rfl, fun _ _ => .inl rfl, fun _ _ => .inl rfl, fun _ _ => .inl rfl, fun _ _ _ => .inl rfl, fun _ _ _ => .inl rfl, fun _ _ _ _ _ => .inl rfl, fun _ _ _ _ _ => .inl rfl⟩
  | n + 1, d => le_step (ev_le P n)

/-- from some fuel on -/
def Evt {α : Type} (f : Nat → Out α) (r : Out α) : Prop := ∃ n, ∀ k, n ≤ k → f k = r

theorem Evt.const {α : Type} (r : Out α) : Evt (fun _ => r) r := ⟨0, fun _ _ => rfl⟩
theorem Evt.of {α : Type} {f : Nat → Out α} (hf : ∀ k, (f k).le (f (k + 1))) {r : Out α} (n : Nat) (h : f n = r) (hr : r ≠ .stuck) : Evt f r := by
  refine ⟨n, fun k hk => ?_⟩
  induction hk with
  | refl => exact h
  | step hk ih =>
    rcases hf _ with e | e
    · exact absurd (ih.symm.trans e) hr
    · rw [← e]; exact ih
theorem Evt.bind {α β : Type} {f : Nat → Out α} {g : Nat → α → St → Out β} {a : α} {σ : St} {r : Out β} (h : Evt f (.ok a σ)) (k : Evt (fun n => g n a σ) r) : Evt (fun n => (f n).bind (g n)) r := by
  obtain ⟨n, h⟩ := h
  obtain ⟨m, k⟩ := k
  refine ⟨n + m, fun j hj => ?_⟩
  show (f j).bind (g j) = r
  rw [h j (by omega)]
  exact k j (by omega)
theorem Evt.bindX {α β : Type} {f : Nat → Out α} {g : Nat → α → St → Out β} {x : Exn} {σ : St} (h : Evt f (.exc x σ)) : Evt (fun n => (f n).bind (g n)) (.exc x σ) := by
  obtain ⟨n, h⟩ := h
  refine ⟨n, fun j hj => ?_⟩
  show (f j).bind (g j) = _
  rw [h j hj]; rfl
theorem Evt.shift {α : Type} {f g : Nat → Out α} {r : Out α} (e : ∀ n, g (n + 1) = f n) (h : Evt f r) : Evt g r := by
  obtain ⟨n, h⟩ := h
  refine ⟨n + 1, fun j hj => ?_⟩
  cases j with
  | zero => omega
  | succ j => rw [e]; exact h j (by omega)
theorem Evt.congr {α : Type} {f g : Nat → Out α} {r : Out α} (e : ∀ n, g n = f n) (h : Evt f r) : Evt g r := by
  obtain ⟨n, h⟩ := h
  exact ⟨n, fun j hj => (e j).trans (h j hj)⟩
end Mine
namespace Mine
open PySem PySem.W PyProof.Rows PySem.Calls PySem.SeqAt

def EX (P : Prg) (d : Nat) (e : Ex) (σ : St) (r : Out AV) : Prop := Evt (fun n => (ev P n d).ex e σ) r
def XS (P : Prg) (d : Nat) (e : List Ex) (σ : St) (r : Out (List AV)) : Prop := Evt (fun n => (ev P n d).exs e σ) r
def TS (P : Prg) (d : Nat) (e : Ex) (σ : St) (r : Out Bool) : Prop := Evt (fun n => (ev P n d).tst e σ) r
def SX (P : Prg) (d : Nat) (e : List Sx) (σ : St) (r : Out Fl) : Prop := Evt (fun n => (ev P n d).sts e σ) r
def ST (P : Prg) (d : Nat) (e : Sx) (σ : St) (r : Out Fl) : Prop := Evt (fun n => stStep (ev P n) d e σ) r
def CL (P : Prg) (d : Nat) (f : Nat) (l : List AV) (σ : St) (r : Out AV) : Prop := Evt (fun n => (ev P n d).call f l σ) r
def WH (P : Prg) (d : Nat) (c : Ex) (b : List Sx) (σ : St) (r : Out Fl) : Prop := Evt (fun n => (ev P n d).whl c b σ) r
def FL (P : Prg) (d : Nat) (x : Nat) (v : AV) (k : Nat) (b : List Sx) (σ : St) (r : Out Fl) : Prop := Evt (fun n => (ev P n d).forL x v k b σ) r
def FR (P : Prg) (d : Nat) (x m k : Nat) (b : List Sx) (σ : St) (r : Out Fl) : Prop := Evt (fun n => (ev P n d).forR x m k b σ) r

section
variable {P : Prg} {d : Nat} {σ σ₁ σ₂ : St}
theorem CL.run {f : Nat} {l : List AV} {a : AV} {τ : St} (n : Nat) (h : (ev P n d).call f l σ = .ok a τ) : CL P d f l σ (.ok a τ) := Evt.of (fun k => (ev_le P k d).call f l σ) n h (by intro h; cases h)
theorem SX.run {l : List Sx} {a : Fl} {τ : St} (n : Nat) (h : (ev P n d).sts l σ = .ok a τ) : SX P d l σ (.ok a τ) := Evt.of (fun k => (ev_le P k d).sts l σ) n h (by intro h; cases h)
theorem EX.run {l : Ex} {a : AV} {τ : St} (n : Nat) (h : (ev P n d).ex l σ = .ok a τ) : EX P d l σ (.ok a τ) := Evt.of (fun k => (ev_le P k d).ex l σ) n h (by intro h; cases h)
theorem TS.run {l : Ex} {a : Bool} {τ : St} (n : Nat) (h : (ev P n d).tst l σ = .ok a τ) : TS P d l σ (.ok a τ) := Evt.of (fun k => (ev_le P k d).tst l σ) n h (by intro h; cases h)
theorem ST.run {l : Sx} {a : Fl} {τ : St} (n : Nat) (h : stStep (ev P n) d l σ = .ok a τ) : ST P d l σ (.ok a τ) := Evt.of (fun k => stStep_le (fun d => ev_le P k d) l σ) n h (by intro h; cases h)

theorem EX.cst {v : PV} : EX P d (.cst v) σ (.ok (.p v) σ) := Evt.shift (fun _ => rfl) (Evt.const _)
theorem EX.loc {i : Nat} {v : AV} (h : σ.lo[i]? = some (some v)) : EX P d (.loc i) σ (.ok v σ) := Evt.shift (fun n => (by show (match σ.lo[i]? with | some (some v) => Out.ok v σ | _ => .stuck) = _; rw [h])) (Evt.const _)
theorem EX.bin {o : Bop} {a b : Ex} {x y : AV} (h1 : EX P d a σ (.ok x σ₁)) (h2 : EX P d b σ₁ (.ok y σ₂)) : EX P d (.bin o a b) σ (binop o x y σ₂) :=
  Evt.shift (fun _ => rfl) (Evt.bind h1 (Evt.bind h2 (Evt.const _)))
theorem EX.binE {o : Bop} {a b : Ex} {x y : AV} {r : Out AV} (h1 : EX P d a σ (.ok x σ₁)) (h2 : EX P d b σ₁ (.ok y σ₂)) (e : binop o x y σ₂ = r) : EX P d (.bin o a b) σ r := e ▸ EX.bin h1 h2
theorem EX.cmp {o : Cop} {a b : Ex} {x y : AV} {r : Bool} (h1 : EX P d a σ (.ok x σ₁)) (h2 : EX P d b σ₁ (.ok y σ₂)) (h : cmpop o x y σ₂ = some r) : EX P d (.cmp o a b) σ (.ok (.p (.bool r)) σ₂) :=
  Evt.shift (fun _ => rfl) (Evt.bind h1 (Evt.bind h2 (Evt.congr (fun n => by simp only [h]) (Evt.const _))))
theorem EX.not {a : Ex} {x : AV} {r : Bool} (h1 : EX P d a σ (.ok x σ₁)) (h : truth x σ₁ = some r) : EX P d (.not a) σ (.ok (.p (.bool (!r))) σ₁) :=
  Evt.shift (fun _ => rfl) (Evt.bind h1 (Evt.congr (fun n => by simp only [h]) (Evt.const _)))
theorem EX.neg {a : Ex} {i : Int} (h1 : EX P d a σ (.ok (.p (.int i)) σ₁)) : EX P d (.neg a) σ (.ok (.p (.int (-i))) σ₁) :=
  Evt.shift (fun _ => rfl) (Evt.bind h1 (Evt.const _))
theorem EX.andT {a b : Ex} {x : AV} {r : Out AV} (h1 : EX P d a σ (.ok x σ₁)) (h : truth x σ₁ = some true) (h2 : EX P d b σ₁ r) : EX P d (.and a b) σ r :=
  Evt.shift (fun _ => rfl) (Evt.bind h1 (Evt.congr (fun n => by simp only [h]) h2))
theorem EX.andF {a b : Ex} {x : AV} (h1 : EX P d a σ (.ok x σ₁)) (h : truth x σ₁ = some false) : EX P d (.and a b) σ (.ok x σ₁) :=
  Evt.shift (fun _ => rfl) (Evt.bind h1 (Evt.congr (fun n => by simp only [h]) (Evt.const _)))
theorem EX.orF {a b : Ex} {x : AV} {r : Out AV} (h1 : EX P d a σ (.ok x σ₁)) (h : truth x σ₁ = some false) (h2 : EX P d b σ₁ r) : EX P d (.or a b) σ r :=
  Evt.shift (fun _ => rfl) (Evt.bind h1 (Evt.congr (fun n => by simp only [h]) h2))
theorem EX.orT {a b : Ex} {x : AV} (h1 : EX P d a σ (.ok x σ₁)) (h : truth x σ₁ = some true) : EX P d (.or a b) σ (.ok x σ₁) :=
  Evt.shift (fun _ => rfl) (Evt.bind h1 (Evt.congr (fun n => by simp only [h]) (Evt.const _)))
theorem EX.iteT {c a b : Ex} {r : Out AV} (h1 : TS P d c σ (.ok true σ₁)) (h2 : EX P d a σ₁ r) : EX P d (.ite c a b) σ r := Evt.shift (fun _ => rfl) (Evt.bind h1 h2)
theorem EX.iteF {c a b : Ex} {r : Out AV} (h1 : TS P d c σ (.ok false σ₁)) (h2 : EX P d b σ₁ r) : EX P d (.ite c a b) σ r := Evt.shift (fun _ => rfl) (Evt.bind h1 h2)
theorem EX.tup {l : List Ex} {vs : List AV} {ps : List PV} (h1 : XS P d l σ (.ok vs σ₁)) (h : vs.mapM pOf = some ps) (hl : okLen ps.length = true) : EX P d (.tup l) σ (.ok (.p (.tup ps)) σ₁) :=
  Evt.shift (fun _ => rfl) (Evt.bind h1 (Evt.congr (fun n => by simp only [h, hl]) (Evt.const _)))
theorem EX.lst {l : List Ex} {vs : List AV} (h1 : XS P d l σ (.ok vs σ₁)) : EX P d (.lst l) σ (newLst vs σ₁) := Evt.shift (fun _ => rfl) (Evt.bind h1 (Evt.const _))
theorem EX.idx {a b : Ex} {x y v : AV} (h1 : EX P d a σ (.ok x σ₁)) (h2 : EX P d b σ₁ (.ok y σ₂)) (h : idxOf σ₂ x y = some v) : EX P d (.idx a b) σ (.ok v σ₂) :=
  Evt.shift (fun _ => rfl) (Evt.bind h1 (Evt.bind h2 (Evt.congr (fun n => by simp only [h]) (Evt.const _))))
theorem EX.sliN {a b : Ex} {x y : AV} {r : Out AV} (h1 : EX P d a σ (.ok x σ₁)) (h2 : EX P d b σ₁ (.ok y σ₂)) (h : sliV x none (some y) σ₂ = r) : EX P d (.sli a none (some b)) σ r :=
  Evt.shift (fun _ => rfl) (Evt.bind h1 (Evt.bind (Evt.const _) (Evt.bind (Evt.bind h2 (Evt.const _)) (Evt.congr (fun n => h) (Evt.const _)))))
theorem EX.sliS {a b : Ex} {x y : AV} {r : Out AV} (h1 : EX P d a σ (.ok x σ₁)) (h2 : EX P d b σ₁ (.ok y σ₂)) (h : sliV x (some y) none σ₂ = r) : EX P d (.sli a (some b) none) σ r :=
  Evt.shift (fun _ => rfl) (Evt.bind h1 (Evt.bind (Evt.bind h2 (Evt.const _)) (Evt.bind (Evt.const _) (Evt.congr (fun n => h) (Evt.const _)))))
theorem EX.sliSS {a b c : Ex} {x y z : AV} {σ₃ : St} {r : Out AV} (h1 : EX P d a σ (.ok x σ₁)) (h2 : EX P d b σ₁ (.ok y σ₂)) (h3 : EX P d c σ₂ (.ok z σ₃)) (h : sliV x (some y) (some z) σ₃ = r) : EX P d (.sli a (some b) (some c)) σ r :=
  Evt.shift (fun _ => rfl) (Evt.bind h1 (Evt.bind (Evt.bind h2 (Evt.const _)) (Evt.bind (Evt.bind h3 (Evt.const _)) (Evt.congr (fun n => h) (Evt.const _)))))
theorem EX.callf {f : Nat} {l : List Ex} {vs : List AV} {r : Out AV} (h1 : XS P d l σ (.ok vs σ₁)) (h2 : CL P d f vs σ₁ r) : EX P d (.callf f l) σ r := Evt.shift (fun _ => rfl) (Evt.bind h1 h2)
theorem EX.bf {b : BF} {l : List Ex} {vs : List AV} {r : Out AV} (h1 : XS P d l σ (.ok vs σ₁)) (h : bfun b vs σ₁ = r) : EX P d (.bf b l) σ r := Evt.shift (fun _ => rfl) (Evt.bind h1 (Evt.congr (fun n => h) (Evt.const _)))
theorem EX.bm {e : Ex} {i : Nat} {b : BM} {l : List Ex} {x : AV} {vs : List AV} {r : Out AV} (h1 : EX P d e σ (.ok x σ₁)) (hr : recvOk b x σ₁ = true) (h2 : XS P d l σ₁ (.ok vs σ₂)) (h : bmeth b x vs σ₂ = r) : EX P d (.meth e i (some b) l) σ r :=
  Evt.shift (fun _ => rfl) (Evt.bind h1 (Evt.congr (fun n => by simp only [hr]) (Evt.bind h2 (Evt.congr (fun n => h) (Evt.const _)))))

theorem XS.nil : XS P d [] σ (.ok [] σ) := Evt.shift (fun _ => rfl) (Evt.const _)
theorem XS.cons {e : Ex} {r : List Ex} {v : AV} {vs : List AV} (h1 : EX P d e σ (.ok v σ₁)) (h2 : XS P d r σ₁ (.ok vs σ₂)) : XS P d (e :: r) σ (.ok (v :: vs) σ₂) :=
  Evt.shift (fun _ => rfl) (Evt.bind h1 (Evt.bind h2 (Evt.const _)))

theorem TS.not {a : Ex} {r : Bool} (h1 : TS P d a σ (.ok r σ₁)) : TS P d (.not a) σ (.ok (!r) σ₁) := Evt.shift (fun _ => rfl) (Evt.bind h1 (Evt.const _))
theorem TS.andT {a b : Ex} {r : Out Bool} (h1 : TS P d a σ (.ok true σ₁)) (h2 : TS P d b σ₁ r) : TS P d (.and a b) σ r := Evt.shift (fun _ => rfl) (Evt.bind h1 h2)
theorem TS.andF {a b : Ex} (h1 : TS P d a σ (.ok false σ₁)) : TS P d (.and a b) σ (.ok false σ₁) := Evt.shift (fun _ => rfl) (Evt.bind h1 (Evt.const _))
theorem TS.orF {a b : Ex} {r : Out Bool} (h1 : TS P d a σ (.ok false σ₁)) (h2 : TS P d b σ₁ r) : TS P d (.or a b) σ r := Evt.shift (fun _ => rfl) (Evt.bind h1 h2)
theorem TS.orT {a b : Ex} (h1 : TS P d a σ (.ok true σ₁)) : TS P d (.or a b) σ (.ok true σ₁) := Evt.shift (fun _ => rfl) (Evt.bind h1 (Evt.const _))
def plainT : Ex → Bool
  | .not _ => false
  | .and _ _ => false
  | .or _ _ => false
  | .ite _ _ _ => false
  | _ => true
theorem TS.plain {e : Ex} {x : AV} {r : Bool} (hp : plainT e = true) (h1 : EX P d e σ (.ok x σ₁)) (h : truth x σ₁ = some r) : TS P d e σ (.ok r σ₁) := by
  have : Evt (fun n => ((ev P n d).ex e σ).bind fun v σ => (match truth v σ with | some r => .ok r σ | none => .stuck)) (.ok r σ₁) := Evt.bind h1 (Evt.congr (fun n => by simp only [h]) (Evt.const _))
  refine Evt.shift (fun n => ?_) this
  cases e <;> first | rfl | cases hp
theorem TS.cmp {o : Cop} {a b : Ex} {x y : AV} {r : Bool} (h1 : EX P d a σ (.ok x σ₁)) (h2 : EX P d b σ₁ (.ok y σ₂)) (h : cmpop o x y σ₂ = some r) : TS P d (.cmp o a b) σ (.ok r σ₂) := TS.plain rfl (EX.cmp h1 h2 h) rfl

theorem SX.nil : SX P d [] σ (.ok .next σ) := Evt.shift (fun _ => rfl) (Evt.const _)
theorem SX.next {s : Sx} {l : List Sx} {r : Out Fl} (h1 : ST P d s σ (.ok .next σ₁)) (h2 : SX P d l σ₁ r) : SX P d (s :: l) σ r := Evt.shift (fun _ => rfl) (Evt.bind h1 h2)
theorem SX.stop {s : Sx} {l : List Sx} {f : Fl} (hf : f ≠ .next) (h1 : ST P d s σ (.ok f σ₁)) : SX P d (s :: l) σ (.ok f σ₁) := by
  refine Evt.shift (fun _ => rfl) (Evt.bind h1 ?_)
  cases f with
  | next => exact absurd rfl hf
  | _ => exact Evt.const _
theorem ST.expr {e : Ex} {v : AV} (h : EX P d e σ (.ok v σ₁)) : ST P d (.expr e) σ (.ok .next (trim σ₁)) := Evt.bind h (Evt.const _)
theorem ST.asg {i : Nat} {e : Ex} {v : AV} (h : EX P d e σ (.ok v σ₁)) : ST P d (.asg i e) σ (.ok .next (trim (setLo i v σ₁))) := Evt.bind h (Evt.const _)
theorem ST.iteT {c : Ex} {a b : List Sx} {r : Out Fl} (h : TS P d c σ (.ok true σ₁)) (k : SX P d a (trim σ₁) r) : ST P d (.ite c a b) σ r := Evt.bind h k
theorem ST.iteF {c : Ex} {a b : List Sx} {r : Out Fl} (h : TS P d c σ (.ok false σ₁)) (k : SX P d b (trim σ₁) r) : ST P d (.ite c a b) σ r := Evt.bind h k
theorem ST.whl {c : Ex} {b : List Sx} {r : Out Fl} (h : WH P d c b σ r) : ST P d (.whl c b) σ r := h
theorem ST.ret {e : Ex} {v : AV} (h : EX P d e σ (.ok v σ₁)) : ST P d (.ret e) σ (.ok (.ret v) σ₁) := Evt.bind h (Evt.const _)
theorem ST.ret0 : ST P d .ret0 σ (.ok (.ret (.p .none)) σ) := Evt.const _
theorem ST.pass : ST P d .pass σ (.ok .next σ) := Evt.const _
theorem ST.brk : ST P d .brk σ (.ok .brk σ) := Evt.const _
theorem ST.cont : ST P d .cont σ (.ok .cont σ) := Evt.const _
theorem ST.forL {x : Nat} {e : Ex} {b : List Sx} {v : AV} {f : Fl} (h : EX P d e σ (.ok v σ₁)) (k : FL P d x v 0 b { σ₁ with fb := Nat.max σ₁.fb v.bd } (.ok f σ₂)) : ST P d (.forL x e b) σ (.ok f { σ₂ with fb := σ₁.fb }) :=
  Evt.bind h (Evt.bind k (Evt.const _))
theorem ST.forR {x : Nat} {e : Ex} {b : List Sx} {m : Int} {r : Out Fl} (h : EX P d e σ (.ok (.p (.int m)) σ₁)) (hm : (smallI m && Nat.blt m.toNat 1000000) = true) (k : FR P d x m.toNat 0 b σ₁ r) : ST P d (.forR x e b) σ r :=
  Evt.bind h (Evt.congr (fun n => by simp only [hm]) k)
theorem WH.done {c : Ex} {b : List Sx} (h : TS P d c σ (.ok false σ₁)) : WH P d c b σ (.ok .next σ₁) := Evt.shift (fun _ => rfl) (Evt.bind h (Evt.const _))
theorem WH.next {c : Ex} {b : List Sx} {r : Out Fl} (h : TS P d c σ (.ok true σ₁)) (k : SX P d b σ₁ (.ok .next σ₂)) (l : WH P d c b σ₂ r) : WH P d c b σ r := Evt.shift (fun _ => rfl) (Evt.bind h (Evt.bind k l))
theorem WH.cont {c : Ex} {b : List Sx} {r : Out Fl} (h : TS P d c σ (.ok true σ₁)) (k : SX P d b σ₁ (.ok .cont σ₂)) (l : WH P d c b σ₂ r) : WH P d c b σ r := Evt.shift (fun _ => rfl) (Evt.bind h (Evt.bind k l))
theorem WH.brk {c : Ex} {b : List Sx} (h : TS P d c σ (.ok true σ₁)) (k : SX P d b σ₁ (.ok .brk σ₂)) : WH P d c b σ (.ok .next σ₂) := Evt.shift (fun _ => rfl) (Evt.bind h (Evt.bind k (Evt.const _)))
theorem WH.ret {c : Ex} {b : List Sx} {v : AV} (h : TS P d c σ (.ok true σ₁)) (k : SX P d b σ₁ (.ok (.ret v) σ₂)) : WH P d c b σ (.ok (.ret v) σ₂) := Evt.shift (fun _ => rfl) (Evt.bind h (Evt.bind k (Evt.const _)))

theorem FL.done {x k : Nat} {v : AV} {b : List Sx} {l : List AV} (h : itemsOf σ v = some l) (hk : l[k]? = none) : FL P d x v k b σ (.ok .next σ) :=
  Evt.shift (f := fun _ => Out.ok .next σ) (fun n => by show forStep (ev P n) d x v k b σ = _; simp only [forStep, h, hk]) (Evt.const _)
theorem FL.item {x k : Nat} {v y : AV} {b : List Sx} {l : List AV} {r : Out Fl} (h : itemsOf σ v = some l) (hk : l[k]? = some y) (c : SX P d b (setLo x y σ) (.ok .next σ₁)) (m : FL P d x v (k + 1) b σ₁ r) : FL P d x v k b σ r :=
  Evt.shift (f := fun n => ((ev P n d).sts b (setLo x y σ)).bind fun f σ => match f with | .next => (ev P n d).forL x v (k + 1) b σ | .cont => (ev P n d).forL x v (k + 1) b σ | .brk => .ok .next σ | .ret r => .ok (.ret r) σ) (fun n => by show forStep (ev P n) d x v k b σ = _; simp only [forStep, h, hk]; try rfl) (Evt.bind c m)
theorem FL.cont {x k : Nat} {v y : AV} {b : List Sx} {l : List AV} {r : Out Fl} (h : itemsOf σ v = some l) (hk : l[k]? = some y) (c : SX P d b (setLo x y σ) (.ok .cont σ₁)) (m : FL P d x v (k + 1) b σ₁ r) : FL P d x v k b σ r :=
  Evt.shift (f := fun n => ((ev P n d).sts b (setLo x y σ)).bind fun f σ => match f with | .next => (ev P n d).forL x v (k + 1) b σ | .cont => (ev P n d).forL x v (k + 1) b σ | .brk => .ok .next σ | .ret r => .ok (.ret r) σ) (fun n => by show forStep (ev P n) d x v k b σ = _; simp only [forStep, h, hk]; try rfl) (Evt.bind c m)
theorem FL.brk {x k : Nat} {v y : AV} {b : List Sx} {l : List AV} (h : itemsOf σ v = some l) (hk : l[k]? = some y) (c : SX P d b (setLo x y σ) (.ok .brk σ₁)) : FL P d x v k b σ (.ok .next σ₁) :=
  Evt.shift (f := fun n => ((ev P n d).sts b (setLo x y σ)).bind fun f σ => match f with | .next => (ev P n d).forL x v (k + 1) b σ | .cont => (ev P n d).forL x v (k + 1) b σ | .brk => .ok .next σ | .ret r => .ok (.ret r) σ) (fun n => by show forStep (ev P n) d x v k b σ = _; simp only [forStep, h, hk]; try rfl) (Evt.bind c (Evt.const _))
theorem FL.ret {x k : Nat} {v y w : AV} {b : List Sx} {l : List AV} (h : itemsOf σ v = some l) (hk : l[k]? = some y) (c : SX P d b (setLo x y σ) (.ok (.ret w) σ₁)) : FL P d x v k b σ (.ok (.ret w) σ₁) :=
  Evt.shift (f := fun n => ((ev P n d).sts b (setLo x y σ)).bind fun f σ => match f with | .next => (ev P n d).forL x v (k + 1) b σ | .cont => (ev P n d).forL x v (k + 1) b σ | .brk => .ok .next σ | .ret r => .ok (.ret r) σ) (fun n => by show forStep (ev P n) d x v k b σ = _; simp only [forStep, h, hk]; try rfl) (Evt.bind c (Evt.const _))
theorem FR.done {x m k : Nat} {b : List Sx} (h : m ≤ k) : FR P d x m k b σ (.ok .next σ) :=
  Evt.shift (f := fun _ => Out.ok .next σ) (fun n => by
    show forRStep (ev P n) d x m k b σ = _
    have : Nat.blt k m = false := by cases e : Nat.blt k m with | false => rfl | true => exact absurd (Nat.le_of_ble_eq_true e) (by omega)
    simp only [forRStep, this]) (Evt.const _)
theorem FR.item {x m k : Nat} {b : List Sx} {r : Out Fl} (h : k < m) (c : SX P d b (setLo x (.p (.int k)) σ) (.ok .next σ₁)) (l : FR P d x m (k + 1) b σ₁ r) : FR P d x m k b σ r :=
  Evt.shift (f := fun n => ((ev P n d).sts b (setLo x (.p (.int k)) σ)).bind fun f σ => match f with | .next => (ev P n d).forR x m (k + 1) b σ | .cont => (ev P n d).forR x m (k + 1) b σ | .brk => .ok .next σ | .ret r => .ok (.ret r) σ) (fun n => by
    show forRStep (ev P n) d x m k b σ = _
    have : Nat.blt k m = true := Nat.ble_eq_true_of_le h
    simp only [forRStep, this]; try rfl) (Evt.bind c l)
theorem CL.fn {f : Nat} {fd : Fd} (hf : lookN f P.fns = some fd) {args : List AV} (ha : Nat.beq args.length fd.npar = true) {fl : Fl} {r : Out AV} (h : SX P d fd.body ⟨σ.hp, σ.hw, σ.hp.length, args.map some ++ List.replicate (fd.nloc - fd.npar) none⟩ (.ok fl σ₁)) (hr : retSt σ.hp.length σ.fb σ.lo (flVal fl) σ₁ = r) : CL P (d + 1) f args σ r := by
  obtain ⟨n, h⟩ := h
  refine ⟨n + 1, fun k hk => ?_⟩
  cases k with
  | zero => omega
  | succ k =>
    show callStep P (ev P k) (d + 1) f args σ = r
    simp only [callStep, hf, ha, h k (by omega), hr]
end

theorem okLen_of {n : Nat} (h : n < 1000000) : okLen n = true := by rw [okLen, Nat.blt_eq]; exact h
/-- _law_cell -/
def fCell : Fd := ⟨2, 2, [.ite (.cmp .lt (.loc 1) (.bf .len [.loc 0])) [.ret (.idx (.loc 0) (.loc 1))] [], .ret (.cst (.int 0))]⟩
def scr (zs : List Int) : AV := .p (.lst (zs.map .int))
def at0 (zs : List Int) (k : Nat) : Int := zs.getD k 0

theorem cell_len {P : Prg} {d : Nat} {zs : List Int} (hz : zs.length ≤ 63) {k : Nat} (τ : St) (hτ : τ.lo = [some (scr zs), some (.p (.int k))]) : TS P d (.cmp .lt (.loc 1) (.bf .len [.loc 0])) τ (.ok (decide ((k : Int) < (zs.length : Int))) τ) := by
  have h1 : okLen zs.length = true := okLen_of (by omega)
  have h2 : bfun .len [scr zs] τ = .ok (.p (.int zs.length)) τ := by
    simp only [bfun, scr, itemsOf, List.length_map, h1]
  exact TS.cmp (EX.loc (by rw [hτ]; rfl)) (EX.bf (XS.cons (EX.loc (by rw [hτ]; rfl)) XS.nil) h2) rfl
theorem cell_fin {zs : List Int} {k : Nat} {σ : St} (hσ : σ.hw ≤ σ.hp.length) (v : Int) : retSt σ.hp.length σ.fb σ.lo (flVal (.ret (.p (.int v)))) (trim ⟨σ.hp, σ.hw, σ.hp.length, [some (scr zs), some (.p (.int k))]⟩) = .ok (.p (.int v)) σ := by
  have hw : Nat.ble σ.hw σ.hp.length = true := Nat.ble_eq_true_of_le hσ
  simp only [retSt, flVal, trim, hw]
  rw [List.take_take, List.take_of_length_le (Nat.le_min.mpr ⟨Nat.le_refl _, Nat.le_max_left _ _⟩)]
theorem okInt_of {k : Int} (h0 : 0 ≤ k) (h1 : k < 1000000) : okInt k = true := by
  unfold okInt
  rw [decide_eq_true h0, decide_eq_true h1]; rfl
theorem idx_lst {l : List PV} {k : Int} {σ : St} (h : okInt k = true) : idxOf σ (.p (.lst l)) (.p (.int k)) = (l.map AV.p)[k.toNat]? := by
  unfold idxOf
  dsimp only
  rw [h]
  rfl
theorem cell_idx {zs : List Int} {k : Nat} (hk : k < 1000) (hlt : k < zs.length) (σ : St) : idxOf σ (scr zs) (.p (.int k)) = some (.p (.int (at0 zs k))) := by
  have ho : okInt (k : Int) = true := okInt_of (by omega) (by omega)
  have e : at0 zs k = zs[k] := by
    unfold at0
    rw [List.getD, List.getElem?_eq_getElem hlt]; rfl
  unfold scr
  rw [idx_lst ho, Int.toNat_natCast, List.getElem?_map, List.getElem?_map, List.getElem?_eq_getElem hlt, e]
  rfl
theorem cell_call {P : Prg} {f : Nat} (hf : lookN f P.fns = some fCell) {zs : List Int} (hz : zs.length ≤ 63) {k : Nat} (hk : k < 1000) (d : Nat) (σ : St) (hσ : σ.hw ≤ σ.hp.length) :
    CL P (d + 1) f [scr zs, .p (.int k)] σ (.ok (.p (.int (at0 zs k))) σ) := by
  by_cases hlt : k < zs.length
  · have e : decide ((k : Int) < (zs.length : Int)) = true := by simpa using hlt
    have t := cell_len (P := P) (d := d) hz (k := k) ⟨σ.hp, σ.hw, σ.hp.length, [some (scr zs), some (.p (.int k))]⟩ rfl
    rw [e] at t
    have q : SX P d [.ret (.idx (.loc 0) (.loc 1))] (trim ⟨σ.hp, σ.hw, σ.hp.length, [some (scr zs), some (.p (.int k))]⟩) (.ok (.ret (.p (.int (at0 zs k)))) (trim ⟨σ.hp, σ.hw, σ.hp.length, [some (scr zs), some (.p (.int k))]⟩)) :=
      SX.stop (by intro h; cases h) (ST.ret (EX.idx (x := scr zs) (y := .p (.int k)) (EX.loc rfl) (EX.loc rfl) (cell_idx hk hlt _)))
    exact CL.fn hf rfl (SX.stop (by intro h; cases h) (ST.iteT t q)) (cell_fin hσ _)
  · have e : decide ((k : Int) < (zs.length : Int)) = false := by simpa using hlt
    have h0 : at0 zs k = 0 := by
      unfold at0
      rw [List.getD, List.getElem?_eq_none (Nat.le_of_not_lt hlt)]; rfl
    have t := cell_len (P := P) (d := d) hz (k := k) ⟨σ.hp, σ.hw, σ.hp.length, [some (scr zs), some (.p (.int k))]⟩ rfl
    rw [e] at t
    rw [h0]
    exact CL.fn hf rfl (SX.next (ST.iteF t SX.nil) (SX.stop (by intro h; cases h) (ST.ret EX.cst))) (cell_fin hσ _)
end Mine
namespace Mine
open PySem PySem.W PyProof.Rows PySem.Calls PySem.SeqAt

theorem ST.asgE {P : Prg} {d : Nat} {σ σ₁ τ : St} {i : Nat} {e : Ex} {v : AV} (h : EX P d e σ (.ok v σ₁)) (q : trim (setLo i v σ₁) = τ) : ST P d (.asg i e) σ (.ok .next τ) := q ▸ ST.asg h
theorem ST.exprE {P : Prg} {d : Nat} {σ σ₁ τ : St} {e : Ex} {v : AV} (h : EX P d e σ (.ok v σ₁)) (q : trim σ₁ = τ) : ST P d (.expr e) σ (.ok .next τ) := q ▸ ST.expr h

def lawSt (zs : List Int) (k : Nat) : St := ⟨[], 0, 0, some (scr zs) :: List.replicate k none⟩
def LawTrue (P : Prg) (d k : Nat) (lb : List Sx) (zs : List Int) : Prop := ∃ σ, SX P d lb (lawSt zs k) (.ok (.ret (.p (.bool true))) σ)

theorem law_go {prog : Program} {w : World} {K : Frag} {p : Program} {loose : List Str} {mean : ExcName → Option Value} {mg mb : Str → Option Value} {s₁ : Shared} {ns : List Str} {x : Str} {body : List Stmt} {scope : Scope} {qual : Str} {fa a : Addr} {cdv : Value} {vs : List Value} {zs : List Int} {h₁ : Heap} {tk : Nat} {base : Heap}
    {R : Result → Shared → Prop} {E : Value → Shared → Prop} {an : List Str} {P : Prg} {lb : List Sx} {d k n : Nat}
    (hlaw : ∀ zs : List Int, zs.length ≤ 63 → LawTrue P d k lb zs) (hd : d ≤ 400)
    (hfn : ∀ q ∈ P.fns, compF K an n q.1 = some q.2)
    (T : Top p loose mean mg mb s₁.heap) (K0 : Below callerA base [] s₁.heap) (KX : K.In s₁.heap) (hL : s₁.heap.IsList a vs.toArray) (hI : IntsAre vs zs) (hz : ¬ ((63 : Nat) : Int) < (zs.length : Int))
    (F : Fr s₁.heap s₁.heap.objs.size h₁ (fun y => List.lookup y [(x, Value.ref a)].reverse))
    (hns : ns[0]? = some x) (hnd : nodupS ns = true) (hk : isFn scope = true) (hc : compL (compS ⟨K, scope, ns, an⟩ n) body = some lb)
    (hR : ∀ h' tk', (∀ b o, s₁.heap.get? b = some o → h'.get? b = some o) → R (.ok (.ret (.bool true))) { s₁ with heap := h', toks := tk' }) :
    wpAny (model prog w) (callerA.deeper (envOf qual scope s₁.heap.objs.size fa cdv)) (execs body (envOf qual scope s₁.heap.objs.size fa cdv)) (fun fl s' => R (.ok (.ret (match fl with | .ret v => v | _ => .none))) s') E { s₁ with heap := h₁, toks := tk } := by
  obtain ⟨σ, N, h⟩ := hlaw zs (by omega)
  refine law_join n N d k T K0 KX hL hI F hd hns hnd hk hfn hc ?_ hR
  have : (ev P N d).sts lb (lawSt zs k) = _ := h N (Nat.le_refl _)
  show gaveTrue ((ev P N d).sts lb (lawSt zs k)) = true
  rw [this]
  rfl

theorem good_true {l : OpenLaw} {cl : Str → Option Addr} {mean : ExcName → Option Value} {args : List WData} {s₁ : Shared} {h' : Heap} {tk' : Nat} (hg : s₁.gens = #[]) (hk : ∀ b o, s₁.heap.get? b = some o → h'.get? b = some o)
    (hr : ∀ cls, l.row.claim.raises args cls = false) (hp : l.row.claim.post args (.bool true) args = true) : GoodW l.row.claim cl mean args s₁ (.ok (.ret (.bool true))) { s₁ with heap := h', toks := tk' } :=
  ⟨.inl ⟨.bool true, .bool true, [], rfl, hr, .bool true, hp, fun _ => ⟨List.nodup_nil, fun _ h => nomatch h⟩⟩, hk, rfl, hg⟩
theorem fmod_range (a : Int) {b : Int} (hb : 0 < b) : 0 ≤ Int.fmod a b ∧ Int.fmod a b < b := ⟨Int.fmod_nonneg_of_pos a hb, Int.fmod_lt_of_pos a hb⟩
end Mine
namespace Mine
open PySem PySem.W PyProof.Rows PySem.Calls PySem.SeqAt
set_option maxHeartbeats 8000000 in
open_top hd01 for PySem.Challenge.rw_ui0501_01
/-- row_and_column -/
def f21 : Fd := ⟨2, 5, [.asg 2 (.sli (.loc 0) none (some (.loc 1))), .asg 3 (.bin .add (.meth (.loc 2) 0 (some .count) [.cst (.str [10])]) (.cst (.int 1))), .asg 4 (.bin .add (.bin .sub (.loc 1) (.bin .add (.meth (.loc 2) 1 (some .rfind) [.cst (.str [10])]) (.cst (.int 1)))) (.cst (.int 1))), .ret (.tup [.loc 3, .loc 4])]⟩
/-- law -/
def lawB : List Sx := [.asg 1 (.bin .add (.bin .mod (.callf 28 [.loc 0, .cst (.int 0)]) (.cst (.int 5))) (.cst (.int 1))), .asg 2 (.bin .add (.bin .mod (.callf 28 [.loc 0, .cst (.int 1)]) (.cst (.int 4))) (.cst (.int 1))), .asg 3 (.bin .mod (.callf 28 [.loc 0, .cst (.int 2)]) (.bin .mul (.loc 2) (.bin .add (.loc 1) (.cst (.int 1))))), .asg 4 (.bin .mul (.bin .add (.bin .mul (.cst (.str [120])) (.loc 1)) (.cst (.str [10]))) (.loc 2)), .ret (.cmp .eq (.callf 21 [.loc 4, .loc 3]) (.tup [.bin .add (.bin .fdiv (.loc 3) (.bin .add (.loc 1) (.cst (.int 1)))) (.cst (.int 1)), .bin .add (.bin .mod (.loc 3) (.bin .add (.loc 1) (.cst (.int 1)))) (.cst (.int 1))]))]
def prg : Prg := ⟨[(21, f21), (28, fCell)], [], [], []⟩

def attrs : List Str := ["count", "rfind"]
def chk (sc : AV) (a b p : Nat) : Bool := gaveTrue ((ev prg 100 20).sts (lawB.drop 3) ⟨[], 0, 0, [some sc, some (.p (.int ((a : Int) + 1))), some (.p (.int ((b : Int) + 1))), some (.p (.int (p : Int))), none]⟩)
theorem chk_all (sc : AV) : ((List.range 5).all fun a => (List.range 4).all fun b => (List.range ((b + 1) * (a + 2))).all fun p => chk sc a b p) = true := by kernel_rfl
theorem fmod_nat (c : Int) {m : Nat} (hm : 0 < m) : ∃ a : Nat, a < m ∧ Int.fmod c m = (a : Int) := by
  have h := fmod_range c (b := (m : Int)) (by omega)
  obtain ⟨a, e⟩ := Int.eq_ofNat_of_zero_le h.1
  exact ⟨a, by omega, e⟩
theorem step3 (zs : List Int) (hz : zs.length ≤ 63) : ∀ a, a < 5 → ∀ b, b < 4 → ∃ p : Nat, p < (b + 1) * (a + 2) ∧
    ∀ r, SX prg 20 (lawB.drop 3) ⟨[], 0, 0, [some (scr zs), some (.p (.int ((a : Int) + 1))), some (.p (.int ((b : Int) + 1))), some (.p (.int (p : Int))), none]⟩ r → SX prg 20 (lawB.drop 2) ⟨[], 0, 0, [some (scr zs), some (.p (.int ((a : Int) + 1))), some (.p (.int ((b : Int) + 1))), none, none]⟩ r := by
  intro a ha b hb
  obtain ⟨p, hp, e⟩ := fmod_nat (at0 zs 2) (m := (b + 1) * (a + 2)) (Nat.mul_pos (by omega) (by omega))
  refine ⟨p, hp, fun r h => SX.next ?_ h⟩
  rw [← e]
  clear e hp h
  have ha : a = 0 ∨ a = 1 ∨ a = 2 ∨ a = 3 ∨ a = 4 := by omega
  have hb : b = 0 ∨ b = 1 ∨ b = 2 ∨ b = 3 := by omega
  rcases ha with rfl | rfl | rfl | rfl | rfl <;> rcases hb with rfl | rfl | rfl | rfl <;>
    exact ST.asgE (EX.binE (EX.callf (XS.cons (EX.loc (by rfl)) (XS.cons EX.cst XS.nil)) (cell_call (by rfl) hz (k := 2) (by decide) _ _ (Nat.le_refl _))) (EX.run 50 (by rfl)) (by rfl)) (by rfl)
theorem law_true (zs : List Int) (hz : zs.length ≤ 63) : LawTrue prg 20 4 lawB zs := by
  obtain ⟨a, ha, ea⟩ := fmod_nat (at0 zs 0) (m := 5) (by decide)
  obtain ⟨b, hb, eb⟩ := fmod_nat (at0 zs 1) (m := 4) (by decide)
  obtain ⟨p, hp, h3⟩ := step3 zs hz a ha b hb
  have hc := List.all_eq_true.mp (List.all_eq_true.mp (List.all_eq_true.mp (chk_all (scr zs)) a (List.mem_range.mpr ha)) b (List.mem_range.mpr hb)) p (List.mem_range.mpr hp)
  obtain ⟨σ, h⟩ := gaveTrue_inv hc
  refine ⟨σ, SX.next (σ₁ := ⟨[], 0, 0, [some (scr zs), some (.p (.int ((a : Int) + 1))), none, none, none]⟩) ?_ (SX.next (σ₁ := ⟨[], 0, 0, [some (scr zs), some (.p (.int ((a : Int) + 1))), some (.p (.int ((b : Int) + 1))), none, none]⟩) ?_ (h3 _ (SX.run 100 h)))⟩
  · rw [← ea]; exact ST.asgE (EX.binE (EX.binE (EX.callf (XS.cons (EX.loc (by rfl)) (XS.cons EX.cst XS.nil)) (cell_call (by rfl) hz (k := 0) (by decide) _ _ (Nat.le_refl _))) EX.cst (by rfl)) EX.cst (by rfl)) (by rfl)
  · rw [← eb]; exact ST.asgE (EX.binE (EX.binE (EX.callf (XS.cons (EX.loc (by rfl)) (XS.cons EX.cst XS.nil)) (cell_call (by rfl) hz (k := 1) (by decide) _ _ (Nat.le_refl _))) EX.cst (by rfl)) EX.cst (by rfl)) (by rfl)
theorem all_fns (P : Params) : ∀ q ∈ prg.fns, compF (hd01.heap_39 P) attrs 200 q.1 = some q.2 := by
  intro q hq
  simp only [prg, List.mem_cons, List.not_mem_nil, or_false] at hq
  rcases hq with rfl | rfl <;> kernel_rfl
end Mine
open PySem PySem.W PyProof.Rows Mine
set_option maxHeartbeats 8000000 in
theorem PySem.Challenge.cw_ui0501_01_holds : PySem.Challenge.rw_ui0501_01.Holds := by
  refine hd01 ?_
  k_go0
  refine law_go (an := attrs) (P := prg) (lb := lawB) (d := 20) (k := 4) (n := 200) (ns := ["script", "n", "rows", "place", "text"]) (R := fun r s' => GoodW _ _ _ _ _ r s') law_true (by decide) ?_ (by assumption) (by assumption) (by assumption) (by assumption) (by assumption) (by assumption) (by assumption) rfl (by kernel_rfl) (by kernel_rfl) (by kernel_rfl) ?_
  · exact all_fns _
  · exact fun h' tk' hk => good_true (by assumption) hk (fun _ => by kernel_rfl) (by kernel_rfl)
