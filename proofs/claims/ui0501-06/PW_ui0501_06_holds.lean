import PyProof.Rows.All
import Wide.All
import OpenK.AllK
import Wide.FinOn
import KE.KSortTup
import KE.KPop
import KE.KxSplit
import KE.KRevIter
import KE.KSuper
import PyProof.ExcAttrAll.ValueError
import PyProof.InstStoreFacts
import PySem.Challenge.RW_ui0501_06
set_option Elab.async false
set_option maxRecDepth 100000
set_option linter.unusedVariables false
set_option linter.unusedSimpArgs false
namespace Mine
open PySem PySem.W PyProof.Rows
/-- an exception with its traceback, and the dict it owns -/
noncomputable def TrD (h base : Heap) (e : Addr) (cls : Value) (dct : Option Addr) (fl : Value) : Prop :=
  ∃ oe vs T oT ts, h.get? e = some oe ∧ (oe.cls = cls ∧ oe.dict = dct) ∧ oe.data = .fields vs ∧ vs[1]? = some (.ref T) ∧ base.get? T = none ∧ T ≠ e ∧ h.get? T = some oT ∧ oT.data = .fields ts ∧ ts[3]? = some fl
theorem TrD.there {h base : Heap} {e : Addr} {cls fl : Value} {dct : Option Addr} (x : TrD h base e cls dct fl) : ∃ ob, h.get? e = some ob ∧ ob.cls = cls ∧ ob.dict = dct ∧ ∃ vs, ob.data = .fields vs := by
  obtain ⟨oe, vs, _, _, _, he, hc, hd, _⟩ := x
  exact ⟨oe, he, hc.1, hc.2, vs, hd⟩
theorem dict_map (f : Array Value → Array Value) (o : Obj) : (Obj.mapFields f o).dict = o.dict := by
  unfold Obj.mapFields
  split <;> rfl
section
variable {M : Model} {A : Around} {E : Value → Shared → Prop} {s : Shared} {base : Heap} {env : Env} {outer : List Env} {L e : Addr}
theorem trd_entry {oe : Obj} {vs : Array Value} {head : Value} {hadNext : Bool} {Q : Unit → Shared → Prop}
    (hfr : A.frames = some (env :: outer)) (hl : s.heap.FunFrames base (env :: outer)) (hf : env.frame = some L)
    (he : s.heap.get? e = some oe) (hkb : base.StaysIn s.heap) (hen : base.get? e = none) (hd : oe.data = .fields vs) (hsz : 1 < vs.size)
    (hQ : ∀ h', base.StaysIn h' → h'.FunFrames base (env :: outer) → TrD h' base e oe.cls oe.dict (rawInt L) → s.heap.UpToSlots h' → Q () { s with heap := h' }) :
    wpAny M A (do let a ← frameOf env; let pl ← entryPlaceOf L hadNext; let b ← EntryCells.newEntry head a .none (rawInt L) .none pl; setField (.ref e) 1 b) Q E s := by
  have hnf : ∀ {b o}, s.heap.get? b = some o → (∀ vs, o.data ≠ .fields vs) → b ≠ e := fun hb hn q => by
    subst q; rw [he] at hb; cases hb; exact hn vs hd
  have hene : e ∉ (env :: outer).filterMap (·.frame) := fun hm => by
    obtain ⟨_, o, ho, hn⟩ := hl.mem hm
    exact hnf ho hn rfl
  refine wpAny_bind (wpAny_frameOf_fun hfr hl hf fun h₁ hs₁ => ?_)
  refine wpAny_bind (wpAny_entryPlaceOf fun pl hpl => ?_)
  unfold EntryCells.newEntry newFields
  refine wpAny_bind (wpAny_newObj_type ?_ (hpl.sizeOk5 _ _ _ _ _))
  have he₁ : h₁.get? e = some oe := (hs₁.2.1 e hene).trans he
  have kb₁ : base.StaysIn h₁ := fun b o hbo => (hs₁.2.1 b fun hm => by rw [(hl.mem hm).1] at hbo; cases hbo).trans (hkb b o hbo)
  generalize hT : ({ cls := .type "traceback", dict := none, data := .fields ([head, .ref L, .none, rawInt L, .none] ++ (if pl.isEmpty then List.replicate 6 Value.none else pl)).toArray } : Obj) = tb
  have he₂ := Heap.get?_push_of_some (h := h₁) tb he₁
  refine wpAny_setField he₂ hd hsz ?_
  have hTe : h₁.objs.size ≠ e := Nat.ne_of_gt (Heap.lt_size he₁)
  have hd₃ := Obj.data_mapFields hd (·.setIfInBounds 1 (Value.ref h₁.objs.size))
  have he₃ := Heap.get?_update_self (Obj.mapFields (·.setIfInBounds 1 (Value.ref h₁.objs.size))) he₂ (Obj.isFreed_of_fields hd₃)
  have keep : ∀ b o, b ≠ e → h₁.get? b = some o → ((h₁.push tb).update e (Obj.mapFields (·.setIfInBounds 1 (Value.ref h₁.objs.size)))).get? b = some o := fun b o hbe hb =>
    (Heap.get?_update_other _ _ (Ne.symm hbe)).trans (Heap.get?_push_of_some _ hb)
  refine hQ _ (fun b o hbo => keep b o (fun q => by rw [q, hen] at hbo; cases hbo) (kb₁ b o hbo)) (hl.of_keeps fun b o hb hn => ?_) ?_ fun b o hb hn => ?_
  · obtain ⟨sl, hs⟩ := hs₁.2.2 b o hb
    exact ⟨_, keep b _ (hnf hb hn) hs, rfl⟩
  · subst hT
    exact ⟨_, _, h₁.objs.size, _, _, he₃, ⟨Obj.cls_mapFields _ _, dict_map _ _⟩, hd₃, by simp [hsz], kb₁.fresh, hTe, (Heap.get?_update_other _ _ (Ne.symm hTe)).trans (Heap.get?_push_size h₁ rfl), rfl, by first | (simp; done) | (rcases hpl with rfl | ⟨_, _, _, _, _, _, _, rfl⟩ <;> simp)⟩
  · obtain ⟨sl, hs⟩ := hs₁.2.2 b o hb
    exact ⟨sl, keep b _ (hnf hb hn) hs⟩
/-- a change of the traceback's own field -/
theorem trd_other {T : Addr} {oT : Obj} {ts : Array Value} (hT : s.heap.get? T = some oT) (hdT : oT.data = .fields ts) (f : Array Value → Array Value) :
    (∀ b, b ≠ T → (s.heap.update T (Obj.mapFields f)).get? b = s.heap.get? b) ∧ ∀ b o, s.heap.get? b = some o → (∀ vs, o.data ≠ .fields vs) → b ≠ T :=
  ⟨fun b hb => Heap.get?_update_other _ _ (Ne.symm hb), fun b o hb hn q => by subst q; rw [hT] at hb; cases hb; exact hn ts hdT⟩
theorem trd_on {cls : Value} {dct : Option Addr} {Q : Unit → Shared → Prop} (hfr : A.frames = some (env :: outer)) (hl : s.heap.FunFrames base (env :: outer)) (hf : env.frame = some L) (ht : TrD s.heap base e cls dct .none) (hkb : base.StaysIn s.heap) (hen : base.get? e = none)
    (hQ : ∀ h', base.StaysIn h' → h'.FunFrames base (env :: outer) → TrD h' base e cls dct (rawInt L) → s.heap.UpToSlots h' → Q () { s with heap := h' }) : wpAny M A (noteFrame (.ref e) env) Q E s := by
  obtain ⟨oe, vs, T, oT, ts, he, ⟨rfl, rfl⟩, hd, h1, hnT, hTe, hT, hdT, h3⟩ := ht
  unfold noteFrame
  simp only [hf]
  refine wpAny_bind (wpAny_field he hd h1 ?_)
  rw [if_pos (show (Value.ref T != Value.none) = true from by simp)]
  refine wpAny_bind (wpAny_field hT hdT h3 ?_)
  rw [if_neg (show ¬ ((Value.none == rawInt L) = true) from by simp [rawInt])]
  refine wpAny_bind (wpAny_setField hT hdT (Array.getElem?_eq_some_iff.mp h3).1 ?_)
  obtain ⟨other, noT⟩ := trd_other (s := s) hT hdT (·.setIfInBounds 3 Value.none)
  exact trd_entry (s := { s with heap := s.heap.update T (Obj.mapFields (·.setIfInBounds 3 Value.none)) }) hfr (hl.of_keeps fun b o hb hn => ⟨o, (other b (noT b o hb hn)).trans hb, rfl⟩) hf ((other e (Ne.symm hTe)).trans he)
    (fun b o hbo => (other b fun q => by rw [q, hnT] at hbo; cases hbo).trans (hkb b o hbo)) hen hd (Array.getElem?_eq_some_iff.mp h1).1
    fun h' x1 x2 x3 x4 => hQ h' x1 x2 x3 fun b o hb hn => x4 b o ((other b (noT b o hb hn)).trans hb) hn
theorem trd_again {cls : Value} {dct : Option Addr} {Q : Unit → Shared → Prop} (hf : env.frame = some L) (ht : TrD s.heap base e cls dct (rawInt L)) (h : Q () s) : wpAny M A (noteFrame (.ref e) env) Q E s := by
  obtain ⟨oe, vs, T, oT, ts, he, _, hd, h1, _, _, hT, hdT, h3⟩ := ht
  unfold noteFrame
  simp only [hf]
  refine wpAny_bind (wpAny_field he hd h1 ?_)
  rw [if_pos (show (Value.ref T != Value.none) = true from by simp)]
  refine wpAny_bind (wpAny_field hT hdT h3 ?_)
  rw [if_pos (show (rawInt L == rawInt L) = true from by simp)]
  exact wpAny_pure h
theorem trd_none {l : List Env} {cls fl : Value} {dct : Option Addr} {Q : Unit → Shared → Prop} (hkb : base.StaysIn s.heap) (hl : s.heap.FunFrames base l) (ht : TrD s.heap base e cls dct fl)
    (hQ : ∀ h', base.StaysIn h' → h'.FunFrames base l → TrD h' base e cls dct .none → s.heap.UpToSlots h' → Q () { s with heap := h' }) : wpAny M A (setFlight (.ref e) none) Q E s := by
  obtain ⟨oe, vs, T, oT, ts, he, hc, hd, h1, hnT, hTe, hT, hdT, h3⟩ := ht
  have hsz3 : 3 < ts.size := (Array.getElem?_eq_some_iff.mp h3).1
  obtain ⟨other, noT⟩ := trd_other (s := s) hT hdT (·.setIfInBounds 3 ((none : Option Addr).elim Value.none fun f => rawInt f))
  unfold setFlight
  refine wpAny_bind (wpAny_field he hd h1 ?_)
  rw [if_pos (show (Value.ref T != Value.none) = true from by simp)]
  refine wpAny_setField hT hdT hsz3 (hQ _ (fun b o hbo => (other b fun q => by rw [q, hnT] at hbo; cases hbo).trans (hkb b o hbo))
    (hl.of_keeps fun b o hb hn => ⟨o, (other b (noT b o hb hn)).trans hb, rfl⟩) ?_ fun b o hb hn => ⟨o.slots, (other b (noT b o hb hn)).trans hb⟩)
  exact ⟨oe, vs, T, _, _, (other e (Ne.symm hTe)).trans he, hc, hd, h1, hnT, hTe, Heap.get?_update_self _ hT (Obj.isFreed_of_fields (Obj.data_mapFields hdT _)), Obj.data_mapFields hdT _, by simp [hsz3]⟩
end
/-- the bases of an exception's class -/
noncomputable def bmVE : List Value := [.type "ValueError", .type "Exception", .type "BaseException", .type "object"]
/-- the text that __init__ hands to its base: message + ' at ' + str(place) -/
noncomputable def fltArg (nm np : Str) (at_ : List Nat) (k : Nat) (q1 q2 q3 q4 q5 q6 q7 : Pos) : Expr := .BinOp (.BinOp (.Name nm q1) .Add (.Constant (.str ⟨at_.toArray⟩) k q2) q3) .Add (.Call (.Name "str" q4) [.Name np q5] [] q6) q7
/-- what the heap says of an exception class with an own __init__ -/
structure FltD (prog : Program) (K : Frag) where
  C : Addr
  N : Addr
  fI : Addr
  cc : Addr
  cda : Addr
  na : Str
  nb : Str
  nm : Str
  q : Str
  bs : List Value
  sn : List Str
  sub : List Value
  ab : Bool
  col : Option Bool
  dd : Option Addr
  k0 : Option Value
  k1 : Option Value
  k2 : Option Value
  k3 : Option Value
  k5 : Option Value
  cls : K.lookup C = some (excClassObj nm q C N bs bmVE true sn sub ab col dd k0 k1 k2 k3 k5 "ValueError.__new__")
  nsOk : nsOkIn K N = true
  init : nsIn K N "__init__" = some (some (.ref fI))
  noGa : nsIn K N "__getattribute__" = some none
  noGh : nsIn K N "__getattr__" = some none
  noSa : nsIn K N "__setattr__" = some none
  noA : nsIn K N na = some none
  noB : nsIn K N nb = some none
  lkA : typeLookup (.type "ValueError") na = pure none
  lkB : typeLookup (.type "ValueError") nb = pure none
  ne : (na == nb) = false
  fname : Str
  fqual : Str
  params : Arguments
  scope : Scope
  dV : Value
  kV : Value
  doc : Value
  pm : Value
  fan : Option Addr
  ct : Value
  oc : Value
  od : Option Addr
  osl : Array (Option Value)
  ps : Str
  pn : Str
  pp : Str
  at_ : List Nat
  kk : Nat
  q1 : Pos
  q2 : Pos
  q3 : Pos
  q4 : Pos
  q5 : Pos
  q6 : Pos
  q7 : Pos
  r0 : Pos
  r1 : Pos
  r2 : Pos
  r3 : Pos
  r4 : Pos
  r5 : Pos
  r6 : Pos
  r7 : Pos
  r8 : Pos
  r9 : Pos
  r10 : Pos
  r11 : Pos
  r12 : Pos
noncomputable abbrev FltD.body {prog : Program} {K : Frag} (D : FltD prog K) : List Stmt :=
  [.Expr (.Call (.Attribute (.Call (.Name "super" D.r0) [] [] D.r1) "__init__" D.r2) [fltArg D.pn D.pp D.at_ D.kk D.q1 D.q2 D.q3 D.q4 D.q5 D.q6 D.q7] [] D.r3) D.r4,
   .Assign [.Attribute (.Name D.ps D.r5) D.na D.r6] (.Name D.pn D.r7) D.r8,
   .Assign [.Attribute (.Name D.ps D.r9) D.nb D.r10] (.Name D.pp D.r11) D.r12]
noncomputable abbrev FltD.fd {prog : Program} {K : Frag} (D : FltD prog K) : FuncData := ksFn D.fname D.fqual D.params D.body D.scope D.dV D.kV D.doc D.pm D.fan (.ref D.cda) D.ct D.cc
structure FltOk {prog : Program} {K : Frag} (D : FltD prog K) : Prop where
  fn : K.lookup D.fI = some ⟨D.oc, D.od, .func D.fd, D.osl⟩
  oc : D.oc = .type "function"
  code : codeIn K (.ref D.cda) D.fqual = true
  codeO : ∃ ccl cdd vs ccs file tf, K.lookup D.cda = some ⟨ccl, cdd, .fields vs, ccs⟩ ∧ vs[2]? = some (.str file tf) ∧ ((prog.main.file : Str) == file) = true
  cell : ∃ cl cld csl, K.lookup D.cc = some ⟨cl, cld, .cell (some (.ref D.C)), csl⟩
  clsD : ∃ cd, clsIn K D.C = some cd ∧ cd.mro = .ref D.C :: bmVE
  subC : mroIn K D.C (.ref D.C) = some true
  subV : mroIn K D.C (.type "ValueError") = some true
  super : nsIn K mainGlobals "super" = some none
  str : nsIn K mainGlobals "str" = some none
  any : nsIn K cStatics "thirdparty.any" = some none
  along : alongIn K "__init__" bmVE = some (some (.builtin "ValueError.__init__"))
  top : (prog.main.scope.names.lookup ("super" : Str)).isSome = false
  first : ∃ ar, (D.params.posonlyargs ++ D.params.args).head? = some ar ∧ ar.arg = D.ps
  bind : ∀ a b c : Value, bindArgs D.fd ⟨[a, b, c], []⟩ = pure [(D.ps, a), (D.pn, b), (D.pp, c)]
  kind : D.scope.kind = .function
  co : D.scope.isCoroutine = false
  gen : D.scope.isGenerator = false
  noCell : ∀ x ∈ D.scope.names, x.2 ≠ .cell
  lps : D.scope.names.lookup D.ps = some .local
  lpn : D.scope.names.lookup D.pn = some .local
  lpp : D.scope.names.lookup D.pp = some .local
  lsu : D.scope.names.lookup ("super" : Str) = some .globalImplicit
  lst : D.scope.names.lookup ("str" : Str) = some .globalImplicit
  lcl : D.scope.names.lookup ("__class__" : Str) = some .free
  dist : D.ps ≠ D.pn ∧ D.ps ≠ D.pp ∧ D.pn ≠ D.pp
  pos : (D.r2.endLine == D.r3.line) = true
  dps : (D.ps == ("__debug__" : Str)) = false
  dpn : (D.pn == ("__debug__" : Str)) = false
  dpp : (D.pp == ("__debug__" : Str)) = false
/-- a dict that is a namespace, as an object -/
noncomputable def N1Obj (o : Obj) (mm : Str → Option Value) : Prop := ∀ (h : Heap) (a : Addr), h.get? a = some o → h.Ns1 a mm
theorem n1_of {h : Heap} {a : Addr} {mm : Str → Option Value} (x : h.Ns1 a mm) : ∃ o, h.get? a = some o ∧ N1Obj o mm := by
  obtain ⟨o, es, ep, e, r⟩ := x
  exact ⟨o, e, fun h' a' e' => ⟨o, es, ep, e', r⟩⟩
/-- such a class with the numbers of its two fields -/
structure FltP (prog : Program) (K : Frag) (an : List Str) where
  D : FltD prog K
  ok : FltOk D
  at_ : D.at_.length < 1000
  ia : Nat
  ib : Nat
  ha : an[ia]? = some D.na
  hb : an[ib]? = some D.nb
end Mine
set_option genSizeOf false
set_option genInjectivity false
namespace Mine
open PySem PySem.W PyProof.Rows PySem.Calls

/-- pure values -/
inductive PV where
  | none
  | bool (b : Bool)
  | int (i : Int)
  | str (s : List Nat)
  | tup (l : List PV)
  | lst (l : List PV)

/-- values: pure, a tracked list or dict, an object of a class whose tracked dict stands at i -/
inductive AV where
  | p (v : PV)
  | obj (i : Nat)
  | ins (C : Nat) (i : Nat)

/-- tracked objects -/
inductive AO where
  | lst (l : List AV)
  | fld (l : List (Nat × AV))

abbrev Led := List (Addr × Obj)

inductive All2 {α β : Type} (R : α → β → Prop) : List α → List β → Prop where
  | nil : All2 R [] []
  | cons {a b l r} : R a b → All2 R l r → All2 R (a :: l) (b :: r)

namespace All2
variable {α β : Type} {R S : α → β → Prop}
theorem length {l : List α} {r : List β} (h : All2 R l r) : l.length = r.length := by
  induction h with
  | nil => rfl
  | cons _ _ ih => simp [ih]
theorem mono {l : List α} {r : List β} (h : All2 R l r) (k : ∀ a b, R a b → S a b) : All2 S l r := by
  induction h with
  | nil => exact .nil
  | cons h _ ih => exact .cons (k _ _ h) ih
theorem get {l : List α} {r : List β} (h : All2 R l r) : ∀ {i : Nat} {a : α}, l[i]? = some a → ∃ b, r[i]? = some b ∧ R a b := by
  induction h with
  | nil => intro i a e; cases e
  | cons h _ ih =>
    intro i a e
    cases i with
    | zero => cases e; exact ⟨_, rfl, h⟩
    | succ i => exact ih e
theorem append {l l' : List α} {r r' : List β} (h : All2 R l r) (k : All2 R l' r') : All2 R (l ++ l') (r ++ r') := by
  induction h with
  | nil => exact k
  | cons h _ ih => exact .cons h ih
theorem set {l : List α} {r : List β} (h : All2 R l r) {a : α} {b : β} (k : R a b) : ∀ i : Nat, All2 R (l.set i a) (r.set i b) := by
  induction h with
  | nil => intro i; exact .nil
  | cons h h' ih =>
    intro i
    cases i with
    | zero => exact .cons k h'
    | succ i => exact .cons h (ih i)
theorem take {l : List α} {r : List β} (h : All2 R l r) : ∀ n : Nat, All2 R (l.take n) (r.take n) := by
  induction h with
  | nil => intro n; simp; exact .nil
  | cons h h' ih =>
    intro n
    cases n with
    | zero => exact .nil
    | succ n => exact .cons h (ih n)
theorem drop {l : List α} {r : List β} (h : All2 R l r) : ∀ n : Nat, All2 R (l.drop n) (r.drop n) := by
  induction h with
  | nil => intro n; simp; exact .nil
  | cons h h' ih =>
    intro n
    cases n with
    | zero => exact .cons h h'
    | succ n => exact ih n
end All2

noncomputable def At (hb : Heap) (frz : Led) (a : Addr) (o : Obj) : Prop := hb.get? a = some o ∨ (a, o) ∈ frz
theorem At.mono {hb : Heap} {frz frz' : Led} (k : ∀ q ∈ frz, q ∈ frz') {a : Addr} {o : Obj} (h : At hb frz a o) : At hb frz' a o := h.imp id (k _)

inductive PQ where
  | one (v : PV)
  | many (l : List PV)
inductive VQ where
  | one (v : Value)
  | many (l : List Value)

inductive PR (an : List Str) (hb : Heap) (frz : Led) : PQ → VQ → Prop where
  | none : PR an hb frz (.one .none) (.one .none)
  | bool (b : Bool) : PR an hb frz (.one (.bool b)) (.one (.bool b))
  | int (i : Int) (t : Tok) : PR an hb frz (.one (.int i)) (.one (.int i t))
  | str (l : List Nat) (t : Tok) : PR an hb frz (.one (.str l)) (.one (.str ⟨l.toArray⟩ t))
  | tup {l : List PV} {vs : List Value} {a : Addr} {o : Obj} {n : Nat} : At hb frz a o → o.cls = .type "tuple" → o.data = .seq vs.toArray n → PR an hb frz (.many l) (.many vs) → PR an hb frz (.one (.tup l)) (.one (.ref a))
  | lst {l : List PV} {vs : List Value} {a : Addr} {o : Obj} {n : Nat} : At hb frz a o → o.cls = .type "list" → o.data = .seq vs.toArray n → PR an hb frz (.many l) (.many vs) → PR an hb frz (.one (.lst l)) (.one (.ref a))
  | nil : PR an hb frz (.many []) (.many [])
  | cons {v : PV} {x : Value} {l : List PV} {r : List Value} : PR an hb frz (.one v) (.one x) → PR an hb frz (.many l) (.many r) → PR an hb frz (.many (v :: l)) (.many (x :: r))
abbrev PRel (an : List Str) (hb : Heap) (frz : Led) (v : PV) (x : Value) : Prop := PR an hb frz (.one v) (.one x)
abbrev PRels (an : List Str) (hb : Heap) (frz : Led) (v : List PV) (x : List Value) : Prop := PR an hb frz (.many v) (.many x)

theorem PR.map {an : List Str} {hb hb' : Heap} {frz frz' : Led} (k : ∀ a o, At hb frz a o → At hb' frz' a o) {v : PQ} {x : VQ} (h : PR an hb frz v x) : PR an hb' frz' v x := by
  induction h with
  | none => exact .none
  | bool b => exact .bool b
  | int i t => exact .int i t
  | str l t => exact .str l t
  | tup a b c _ ih => exact .tup (k _ _ a) b c ih
  | lst a b c _ ih => exact .lst (k _ _ a) b c ih
  | nil => exact .nil
  | cons _ _ h1 h2 => exact .cons h1 h2
theorem PR.mono {an : List Str} {hb : Heap} {frz frz' : Led} (k : ∀ q ∈ frz, q ∈ frz') {v : PQ} {x : VQ} (h : PR an hb frz v x) : PR an hb frz' v x := h.map fun _ _ q => q.mono k

theorem PR.all2 {an : List Str} {hb : Heap} {frz : Led} : ∀ {l : List PV} {r : List Value}, PRels an hb frz l r → All2 (PRel an hb frz) l r
  | [], _, h => by cases h; exact .nil
  | _ :: _, _, h => by cases h with | cons a b => exact .cons a (PR.all2 b)
theorem PRels.of {an : List Str} {hb : Heap} {frz : Led} {l : List PV} {r : List Value} (h : All2 (PRel an hb frz) l r) : PRels an hb frz l r := by
  induction h with
  | nil => exact .nil
  | cons a _ ih => exact .cons a ih

/-- values over the addresses of the tracked objects -/
inductive VRel (an : List Str) (hb : Heap) (ι : List Addr) (frz : Led) : AV → Value → Prop where
  | p {v : PV} {x : Value} : PRel an hb frz v x → VRel an hb ι frz (.p v) x
  | obj {i : Nat} {a : Addr} : ι[i]? = some a → VRel an hb ι frz (.obj i) (.ref a)
  | ins {C i : Nat} {dx : Addr} : ι[i]? = some dx → (dx + 1, instObj C dx) ∈ frz → VRel an hb ι frz (.ins C i) (.ref (dx + 1))

theorem prefix_get {ι ι' : List Addr} (h : ι <+: ι') {i : Nat} {a : Addr} (e : ι[i]? = some a) : ι'[i]? = some a := by
  obtain ⟨r, rfl⟩ := h
  rw [List.getElem?_append_left (List.getElem?_eq_some_iff.mp e).1]; exact e
theorem VRel.mono {an : List Str} {hb : Heap} {ι ι' : List Addr} {frz frz' : Led} (hι : ι <+: ι') (k : ∀ q ∈ frz, q ∈ frz') {v : AV} {x : Value} (h : VRel an hb ι frz v x) : VRel an hb ι' frz' v x := by
  cases h with
  | p h => exact .p (h.mono k)
  | obj e => exact .obj (prefix_get hι e)
  | ins e m => exact .ins (prefix_get hι e) (k _ m)

inductive ORel (an : List Str) (P : Params) (hb : Heap) (ι : List Addr) (frz : Led) : AO → Obj → Prop where
  | lst {l : List AV} {vs : List Value} {n : Nat} : All2 (VRel an hb ι frz) l vs → ORel an P hb ι frz (.lst l) (listOf vs.toArray n)
  | fld {l : List (Nat × AV)} {es : List DictEntry} {n : Nat} : All2 (fun (q : Nat × AV) (e : DictEntry) => (∃ x t, an[q.1]? = some x ∧ e.key = .str x t) ∧ VRel an hb ι frz q.2 e.val) l es → ORel an P hb ι frz (.fld l) (dictOf es n)

theorem ORel.mono {an : List Str} {P : Params} {hb : Heap} {ι ι' : List Addr} {frz frz' : Led} (hι : ι <+: ι') (k : ∀ q ∈ frz, q ∈ frz') {v : AO} {x : Obj} (h : ORel an P hb ι frz v x) : ORel an P hb ι' frz' v x := by
  cases h with
  | lst h => exact .lst (h.mono fun _ _ => VRel.mono hι k)
  | fld h => exact .fld (h.mono fun _ _ q => ⟨q.1, q.2.mono hι k⟩)

/-- the height that a value's reference wants -/
noncomputable def AV.bd : AV → Nat
  | .p _ => 0
  | .obj i => i + 1
  | .ins _ i => i + 1
noncomputable def bds : List AV → Nat
  | [] => 0
  | v :: r => Nat.max v.bd (bds r)
noncomputable def AO.bd : AO → Nat
  | .lst l => bds l
  | .fld l => bds (l.map (·.2))

structure St where
  hp : List AO
  hw : Nat
  lo : List (Option AV)

noncomputable def obds : List (Option AV) → Nat
  | [] => 0
  | none :: r => obds r
  | some v :: r => Nat.max v.bd (obds r)

end Mine
set_option genSizeOf false
set_option genInjectivity false
namespace Mine
open PySem PySem.W PyProof.Rows PySem.Calls

structure Exn where
  C : Nat
  ns : List Nat
  vs : List PV

inductive Out (α : Type) where
  | ok (a : α) (σ : St)
  | exc (x : Exn) (σ : St)
  | stuck

noncomputable def Out.bind {α β : Type} (o : Out α) (k : α → St → Out β) : Out β := match o with
  | .ok a σ => k a σ
  | .exc x σ => .exc x σ
  | .stuck => .stuck

/-- no exception passes -/
noncomputable def Out.noX {α : Type} (o : Out α) : Out α := match o with
  | .ok a σ => .ok a σ
  | _ => .stuck

inductive Bop where | add | sub | mul | fdiv | mod
inductive Cop where | eq | ne | lt | le | gt | ge | isin | notin | is | isnot
inductive BF where | len | list | tuple | str | int | max
inductive BM where | append | pop | sort | join | split | startswith | rstrip | count | rfind | find

/-- how a loop goes over its source -/
inductive Md where | seq | rng | rev

/-- expressions; nil and cons are lists of them -/
inductive Ex where
  | cst (v : PV)
  | loc (i : Nat)
  | bin (o : Bop) (a b : Ex)
  | neg (a : Ex)
  | not (a : Ex)
  | and (a b : Ex)
  | or (a b : Ex)
  | cmp (o : Cop) (a b : Ex)
  | ite (c a b : Ex)
  | tup (l : Ex)
  | lst (l : Ex)
  | att (e : Ex) (n : Nat)
  | idx (e i : Ex)
  | sli (e lo hi : Ex)
  | callf (f : Nat) (l : Ex)
  | new (C : Nat) (l : Ex)
  | bf (b : BF) (l : Ex)
  | meth (e : Ex) (n : Nat) (b : Option BM) (l : Ex)
  | cmpr (i : Nat) (rng : Md) (src test elt : Ex)
  | isi (e : Ex) (C : Nat)
  | nil
  | cons (e l : Ex)

/-- no comprehension -/
noncomputable def Ex.noC : Ex → Bool
  | .cmpr _ _ _ _ _ => false
  | _ => true

/-- what a loop goes over -/
inductive Src where
  | seq (v : AV)
  | rng (n : Nat)
  | rev (l : List PV)

/-- statements; nil and cons are suites -/
inductive Sx where
  | expr (e : Ex)
  | asg (i : Nat) (e : Ex)
  | asgA (o : Ex) (n : Nat) (e : Ex)
  | ite (c : Ex) (a b : Sx)
  | whl (c : Ex) (b : Sx)
  | forS (i : Nat) (rng : Md) (e : Ex) (b : Sx)
  | ret (e : Ex)
  | ret0
  | pass
  | brk
  | cont
  | rse (e : Ex)
  | tryC (b : Sx) (C : Nat) (i : Option Nat) (h : Sx)
  | nil
  | cons (s l : Sx)

inductive Fl where
  | next | brk | cont
  | ret (v : AV)

structure Fd where
  npar : Nat
  nloc : Nat
  body : Sx

/-- a class: its __init__, its fields, its methods -/
structure Cls where
  init : Nat
  flds : List Nat
  mths : List (Nat × Nat)
/-- functions, classes, classes of exceptions with the attributes that they take their arguments as -/
structure Prg where
  fns : List (Nat × Fd)
  cls : List (Nat × Cls)
  exs : List (Nat × List Nat)

noncomputable def lookN {α : Type} (k : Nat) : List (Nat × α) → Option α
  | [] => none
  | q :: r => match Nat.beq q.1 k with
    | true => some q.2
    | false => lookN k r

noncomputable def pOf : AV → Option PV
  | .p x => some x
  | _ => none

noncomputable def eqL : List Nat → List Nat → Bool
  | [], l => l.isEmpty
  | a :: r, l => match l with
    | [] => false
    | b :: t => (match Nat.beq a b with | true => eqL r t | false => false)

/-- == of pure values; none: not served -/
noncomputable def peqs (f : PV → PV → Option Bool) : List PV → List PV → Option Bool
  | [], l => some l.isEmpty
  | a :: r, l => match l with
    | [] => some false
    | b :: t => (match f a b with
      | none => none
      | some x => (match peqs f r t with | some y => some (x && y) | none => none))
/-- an equality with a plain value of another kind -/
noncomputable def offNone : PV → Option Bool
  | .none => some true
  | _ => some false
noncomputable def offBool (a : Bool) : PV → Option Bool
  | .bool b => some (a == b)
  | .none => some false
  | .str _ => some false
  | _ => none
noncomputable def offInt (a : Int) : PV → Option Bool
  | .int b => some (a == b)
  | .none => some false
  | .str _ => some false
  | _ => none
noncomputable def offStr (a : List Nat) : PV → Option Bool
  | .str b => some (eqL a b)
  | .none => some false
  | .int _ => some false
  | .bool _ => some false
  | .tup _ => some false
  | _ => none
noncomputable def offTup (f : List PV → Option Bool) : PV → Option Bool
  | .tup b => f b
  | .none => some false
  | .str _ => some false
  | _ => none
noncomputable def offLst (f : List PV → Option Bool) : PV → Option Bool
  | .lst b => f b
  | .none => some false
  | _ => none
noncomputable def peq : Nat → PV → PV → Option Bool
  | 0, _, _ => none
  | n + 1, x, y => match x with
    | .none => offNone y
    | .bool a => offBool a y
    | .int a => offInt a y
    | .str a => offStr a y
    | .tup a => offTup (fun b => peqs (peq n) a b) y
    | .lst a => offLst (fun b => match Nat.beq a.length b.length with | true => peqs (peq n) a b | false => some false) y

noncomputable def smallI (i : Int) : Bool := decide (-1000000000000 < i) && decide (i < 1000000000000)
noncomputable def okLen (n : Nat) : Bool := Nat.blt n 1000000

noncomputable def objOf (σ : St) : AV → Option AO
  | .obj i => σ.hp[i]?
  | _ => none
noncomputable def lstAt : Option AO → Option (List AV)
  | some (.lst l) => some l
  | _ => none
noncomputable def pureL : PV → Option (List PV)
  | .lst l => some l
  | _ => none
noncomputable def pureT : PV → Option (List PV)
  | .tup l => some l
  | _ => none
noncomputable def tupOf : AV → Option (List PV)
  | .p v => pureT v
  | _ => none
noncomputable def lstOf (σ : St) : AV → Option (List AV)
  | .p v => (pureL v).map (·.map .p)
  | .obj i => lstAt σ.hp[i]?
  | _ => none
noncomputable def itemsOf (σ : St) (v : AV) : Option (List AV) := match v with
  | .p (.tup l) => some (l.map .p)
  | v => lstOf σ v

noncomputable def newLst (l : List AV) (σ : St) : Out AV := match okLen l.length with
  | true => .ok (.obj σ.hp.length) { σ with hp := σ.hp ++ [.lst l] }
  | false => .stuck

noncomputable def rep {α : Type} : Nat → List α → List α
  | 0, _ => []
  | n + 1, l => l ++ rep n l

noncomputable def intOf : AV → Option Int
  | .p (.int i) => some i
  | _ => none
noncomputable def strOf : AV → Option (List Nat)
  | .p (.str s) => some s
  | _ => none
noncomputable def int2 (f : Int → Int → Option Int) (x y : AV) (σ : St) : Out AV := match intOf x, intOf y with
  | some a, some b => (match f a b with | some c => .ok (.p (.int c)) σ | none => .stuck)
  | _, _ => .stuck
noncomputable def badd (x y : AV) (σ : St) : Out AV := match intOf x with
  | some a => (match intOf y with | some b => .ok (.p (.int (a + b))) σ | none => .stuck)
  | none => match strOf x with
    | some a => (match strOf y with
      | some b => (match okLen (a.length + b.length) with | true => .ok (.p (.str (a ++ b))) σ | false => .stuck)
      | none => .stuck)
    | none => match lstOf σ x, lstOf σ y with
      | some a, some b => newLst (a ++ b) σ
      | _, _ => .stuck
noncomputable def bmul (x y : AV) (σ : St) : Out AV := match intOf y with
  | none => .stuck
  | some n => match intOf x with
    | some a => (match smallI a && smallI n with | true => .ok (.p (.int (a * n))) σ | false => .stuck)
    | none => match strOf x with
      | some a => (match smallI n && okLen n.toNat && okLen (a.length * n.toNat) with | true => .ok (.p (.str (rep n.toNat a))) σ | false => .stuck)
      | none => match lstAt (objOf σ x) with
        | some l => (match smallI n && okLen (l.length * n.toNat) with | true => newLst (rep n.toNat l) σ | false => .stuck)
        | none => .stuck
noncomputable def binop (o : Bop) (x y : AV) (σ : St) : Out AV := match o with
  | .add => badd x y σ
  | .sub => int2 (fun a b => some (a - b)) x y σ
  | .mul => bmul x y σ
  | .fdiv => int2 (fun a b => match decide (0 < b) && decide (b < 1000000000) with | true => some (Int.fdiv a b) | false => none) x y σ
  | .mod => int2 (fun a b => match decide (b = 0) with | true => none | false => some (Int.fmod a b)) x y σ

noncomputable def snapL (f : AV → Option PV) : List AV → Option (List PV)
  | [] => some []
  | v :: r => match f v with
    | none => none
    | some x => (match snapL f r with | some l => some (x :: l) | none => none)
noncomputable def snap (σ : St) : Nat → AV → Option PV
  | 0, v => pOf v
  | n + 1, v => match pOf v with
    | some x => some x
    | none => match lstAt (objOf σ v) with
      | some l => (match snapL (snap σ n) l with | some l => some (.lst l) | none => none)
      | none => none

/-- == of the items of two lists: the same object is equal -/
noncomputable def sameI : AV → AV → Bool
  | .ins C i, .ins D j => Nat.beq C D && Nat.beq i j
  | _, _ => false
noncomputable def aeqs (f : AV → AV → Option Bool) : List AV → List AV → Option Bool
  | [], l => some l.isEmpty
  | a :: r, l => match l with
    | [] => some false
    | b :: t => (match f a b with
      | none => none
      | some x => (match aeqs f r t with | some y => some (x && y) | none => none))
noncomputable def aeqL (f : AV → AV → Option Bool) (σ : St) (a b : AV) : Option Bool := match lstAt (objOf σ a), lstAt (objOf σ b) with
  | some l, some r => (match Nat.beq l.length r.length with | true => aeqs f l r | false => some false)
  | _, _ => none
noncomputable def differ : AV → AV → Bool
  | .obj i, .obj j => !Nat.beq i j
  | _, _ => false
noncomputable def ceq (a b : AV) (σ : St) : Option Bool := match snap σ 6 a, snap σ 6 b with
  | some x, some y => peq 12 x y
  | _, _ => none
noncomputable def aeq (σ : St) : Nat → AV → AV → Option Bool
  | 0, _, _ => none
  | n + 1, a, b => match sameI a b with
    | true => some true
    | false => match ceq a b σ with
      | some r => some r
      | none => (match differ a b with | true => aeqL (aeq σ n) σ a b | false => none)
noncomputable def ceqA (a b : AV) (σ : St) : Option Bool := match ceq a b σ with
  | some r => some r
  | none => aeqL (aeq σ 4) σ a b

noncomputable def anyEq (f : PV → Option Bool) : List PV → Option Bool
  | [] => some false
  | a :: r => match f a with
    | none => none
    | some x => (match anyEq f r with | some y => some (x || y) | none => none)

/-- x within y, as texts -/
noncomputable def preL : List Nat → List Nat → Bool
  | [], _ => true
  | a :: r, l => match l with
    | [] => false
    | b :: t => (match Nat.beq a b with | true => preL r t | false => false)
noncomputable def subL (x : List Nat) : List Nat → Bool
  | [] => preL x []
  | b :: t => preL x (b :: t) || subL x t

noncomputable def seqP (v : PV) : Option (List PV) := match pureL v with
  | some l => some l
  | none => pureT v
noncomputable def cin (a b : AV) (σ : St) : Option Bool := match strOf b with
  | some y => (match strOf a with | some x => some (subL x y) | none => none)
  | none => match snap σ 6 a, snap σ 6 b with
    | some x, some y => (match seqP y with | some l => anyEq (fun v => peq 12 v x) l | none => none)
    | _, _ => none

noncomputable def isNone : AV → Bool
  | .p .none => true
  | _ => false
noncomputable def cis (a b : AV) : Option Bool := match isNone b with
  | true => some (isNone a)
  | false => none

noncomputable def cmpI (f : Int → Int → Bool) (a b : AV) : Option Bool := match intOf a, intOf b with
  | some a, some b => some (f a b)
  | _, _ => none
noncomputable def notB : Option Bool → Option Bool
  | some b => some (!b)
  | none => none

noncomputable def cmpop (o : Cop) (a b : AV) (σ : St) : Option Bool := match o with
  | .eq => ceqA a b σ
  | .ne => notB (ceq a b σ)
  | .isin => cin a b σ
  | .notin => notB (cin a b σ)
  | .is => cis a b
  | .isnot => notB (cis a b)
  | .lt => cmpI (fun a b => decide (a < b)) a b
  | .le => cmpI (fun a b => decide (a ≤ b)) a b
  | .gt => cmpI (fun a b => decide (a > b)) a b
  | .ge => cmpI (fun a b => decide (a ≥ b)) a b

noncomputable def truthP : PV → Option Bool
  | .none => some false
  | .bool b => some b
  | .int i => some (i != 0)
  | .str l => (match okLen l.length with | true => some (!l.isEmpty) | false => none)
  | _ => none
noncomputable def truth (v : AV) (σ : St) : Option Bool := match v with
  | .p v => truthP v
  | v => (match lstAt (objOf σ v) with | some l => (match okLen l.length with | true => some (!l.isEmpty) | false => none) | none => none)

noncomputable def okInt (k : Int) : Bool := decide (0 ≤ k) && decide (k < 1000000)
noncomputable def idxOf (σ : St) (x y : AV) : Option AV := match intOf y with
  | none => none
  | some k => (match okInt k with
    | false => none
    | true => (match strOf x with
      | some l => (match l[k.toNat]? with | some c => some (.p (.str [c])) | none => none)
      | none => (match itemsOf σ x with | some l => l[k.toNat]? | none => none)))

noncomputable def trim (fb : Nat) (σ : St) : St := { σ with hp := σ.hp.take (Nat.max fb (Nat.max σ.hw (obds σ.lo))) }

noncomputable def retSt (n : Nat) (lo : List (Option AV)) (v : AV) (σ : St) : Out AV := match Nat.ble σ.hw n with
  | false => .ok v ⟨σ.hp, σ.hw, lo⟩
  | true => match Nat.ble v.bd n with
    | true => .ok v ⟨σ.hp.take n, σ.hw, lo⟩
    | false => match v with
      | .obj j => (match σ.hp[j]? with
        | some o => (match Nat.ble o.bd n with
          | true => .ok (.obj n) ⟨σ.hp.take n ++ [o], σ.hw, lo⟩
          | false => .ok (.obj j) ⟨σ.hp, σ.hw, lo⟩)
        | none => .stuck)
      | v => .ok v ⟨σ.hp, σ.hw, lo⟩

noncomputable def srcAt (S : Src) (k : Nat) (σ : St) : Option (Option AV) := match S with
  | .seq v => (itemsOf σ v).map (·[k]?)
  | .rng n => some (match Nat.blt k n with | true => some (.p (.int k)) | false => none)
  | .rev l => some ((l.map AV.p)[k]?)
noncomputable def Src.bd : Src → Nat
  | .seq v => v.bd
  | .rng _ => 0
  | .rev _ => 0
noncomputable def srcOf (σ : St) (rng : Md) (v : AV) : Option Src := match rng with
  | .seq => (match itemsOf σ v with | some _ => some (.seq v) | none => none)
  | .rev => (match tupOf v with | some l => (match okLen l.length with | true => some (.rev l.reverse) | false => none) | none => none)
  | .rng => match intOf v with
    | some n => (match smallI n && Nat.blt n.toNat 1000000 with | true => some (.rng n.toNat) | false => none)
    | none => none

structure Ev where
  ex : Ex → St → Out AV
  exs : Ex → St → Out (List AV)
  tst : Ex → St → Out Bool
  sts : Nat → Sx → St → Out Fl
  call : Nat → List AV → St → Out AV
  whl : Nat → Ex → Sx → St → Out Fl
  forS : Nat → Nat → Src → Nat → Sx → St → Out Fl
  cmp : Nat → Src → Nat → List AV → Ex → Ex → St → Out (List AV)

noncomputable def Ev.none : Ev := ⟨fun _ _ => .stuck, fun _ _ => .stuck, fun _ _ => .stuck, fun _ _ _ => .stuck, fun _ _ _ => .stuck, fun _ _ _ _ => .stuck, fun _ _ _ _ _ _ => .stuck, fun _ _ _ _ _ _ _ => .stuck⟩

noncomputable def flVal : Fl → AV
  | .ret v => v
  | _ => .p .none

noncomputable def callStep (P : Prg) (ih : Nat → Ev) : Nat → Nat → List AV → St → Out AV
  | 0, _, _, _ => .stuck
  | d + 1, f, args, σ => match lookN f P.fns with
    | none => .stuck
    | some fd => match Nat.beq args.length fd.npar with
      | false => .stuck
      | true => match (ih d).sts σ.hp.length fd.body ⟨σ.hp, σ.hw, args.map some ++ List.replicate (fd.nloc - fd.npar) none⟩ with
        | .ok fl σ' => retSt σ.hp.length σ.lo (flVal fl) σ'
        | .exc x σ' => .exc x ⟨σ'.hp, σ'.hw, σ.lo⟩
        | .stuck => .stuck

noncomputable def bLen (v : AV) (σ : St) : Out AV := match strOf v with
  | some l => (match okLen l.length with | true => .ok (.p (.int l.length)) σ | false => .stuck)
  | none => (match itemsOf σ v with | some l => (match okLen l.length with | true => .ok (.p (.int l.length)) σ | false => .stuck) | none => .stuck)
noncomputable def bTuple (v : AV) (σ : St) : Out AV := match lstOf σ v with
  | some l => (match l.mapM pOf with | some ps => (match okLen l.length with | true => .ok (.p (.tup ps)) σ | false => .stuck) | none => .stuck)
  | none => .stuck
noncomputable def fun1 (f : AV → St → Out AV) (args : List AV) (σ : St) : Out AV := match args with
  | [] => .stuck
  | v :: r => (match r with | [] => f v σ | _ :: _ => .stuck)
noncomputable def bList (v : AV) (σ : St) : Out AV := match itemsOf σ v with
  | some l => newLst l σ
  | none => .stuck
noncomputable def fun2 (f : AV → AV → St → Out AV) (args : List AV) (σ : St) : Out AV := match args with
  | [] => .stuck
  | v :: r => fun1 (f v) r σ
noncomputable def bMax (x y : AV) (σ : St) : Out AV := int2 (fun a b => some (match decide (b > a) with | true => b | false => a)) x y σ
/-- the digits of a number below 100 -/
noncomputable def dec2 (n : Nat) : List Nat := match Nat.blt n 10 with | true => [n + 48] | false => [n / 10 + 48, n % 10 + 48]
noncomputable def bStr (v : AV) (σ : St) : Out AV := match intOf v with
  | some i => (match decide (0 ≤ i) && decide (i < 100) with | true => .ok (.p (.str (dec2 i.toNat))) σ | false => .stuck)
  | none => .stuck
/-- a number of one or two digits -/
noncomputable def digV (c : Nat) : Option Nat := match Nat.ble 48 c && Nat.ble c 57 with | true => some (c - 48) | false => none
noncomputable def numL (l : List Nat) : Option Nat := match l with
  | [] => none
  | c :: r => (match digV c with
    | none => none
    | some a => (match r with
      | [] => some a
      | e :: t => (match t with
        | [] => (match digV e with | some b => some (a * 10 + b) | none => none)
        | _ :: _ => none)))
noncomputable def bInt (v : AV) (σ : St) : Out AV := match strOf v with
  | some l => (match numL l with | some n => .ok (.p (.int n)) σ | none => .stuck)
  | none => .stuck
noncomputable def bfun (b : BF) (args : List AV) (σ : St) : Out AV := match b with
  | .len => fun1 bLen args σ
  | .tuple => fun1 bTuple args σ
  | .list => fun1 bList args σ
  | .max => fun2 bMax args σ
  | .str => fun1 bStr args σ
  | .int => fun1 bInt args σ

noncomputable def BM.onList : BM → Bool
  | .append => true
  | .pop => true
  | .sort => true
  | _ => false
noncomputable def recvOk (b : BM) (v : AV) (σ : St) : Bool := match lstAt (objOf σ v) with
  | some _ => b.onList
  | none => (match strOf v with | some _ => !b.onList | none => false)

noncomputable def mAppend (i : Nat) (x : AV) (σ : St) : Out AV := match lstAt σ.hp[i]? with
  | some l => (match okLen l.length with
    | true => .ok (.p .none) { σ with hp := σ.hp.set i (.lst (l ++ [x])), hw := (match Nat.ble x.bd (Nat.max i σ.hw) with | true => σ.hw | false => x.bd) }
    | false => .stuck)
  | none => .stuck
noncomputable def onObj (f : Nat → AV → St → Out AV) (v : AV) (args : List AV) (σ : St) : Out AV := match v with
  | .obj i => fun1 (f i) args σ
  | _ => .stuck
noncomputable def onStr (f : Str → Str → PV) (v : AV) (args : List AV) (σ : St) : Out AV := match strOf v with
  | some x => fun1 (fun y σ => match strOf y with | some y => .ok (.p (f ⟨x.toArray⟩ ⟨y.toArray⟩)) σ | none => .stuck) args σ
  | none => .stuck
/-- '…'.join -/
noncomputable def mJoin (x : List Nat) (v : AV) (σ : St) : Out AV := match lstAt (objOf σ v) with
  | none => .stuck
  | some l => (match l.mapM strOf with
    | none => .stuck
    | some ys => (match Nat.ble x.length 16 && Nat.ble ((ys.map (·.length)).sum + ys.length) 1000000 with
      | true => .ok (.p (.str (Txt.join ⟨x.toArray⟩ (ys.map fun y => ⟨y.toArray⟩)).cps.toList)) σ
      | false => .stuck))
/-- .sort() of a short list, or of tuples of ints -/
noncomputable def mSort (v : AV) (args : List AV) (σ : St) : Out AV := match v with
  | .obj i => (match args with
    | [] => (match lstAt σ.hp[i]? with
      | some l => (match Nat.blt l.length 2 with
        | true => .ok (.p .none) { σ with hp := σ.hp.set i (.lst l) }
        | false => .stuck)
      | none => .stuck)
    | _ :: _ => .stuck)
  | _ => .stuck
noncomputable def mPop (v : AV) (args : List AV) (σ : St) : Out AV := match v with
  | .obj i => (match args with
    | [] => (match lstAt σ.hp[i]? with
      | some l => (match l.getLast? with
        | some y => (match okLen l.length with | true => .ok y { σ with hp := σ.hp.set i (.lst l.dropLast) } | false => .stuck)
        | none => .stuck)
      | none => .stuck)
    | _ :: _ => .stuck)
  | _ => .stuck
noncomputable def mRstrip (x : List Nat) (v : AV) (σ : St) : Out AV := match strOf v with
  | some y => (match okLen x.length with | true => .ok (.p (.str (Txt.rstripChars ⟨x.toArray⟩ ⟨y.toArray⟩).cps.toList)) σ | false => .stuck)
  | none => .stuck
noncomputable def mSplit (x : List Nat) (v : AV) (σ : St) : Out AV := match strOf v with
  | some y => (match okLen x.length && !y.isEmpty with | true => newLst ((Txt.split ⟨x.toArray⟩ ⟨y.toArray⟩).map fun s => .p (.str s.cps.toList)) σ | false => .stuck)
  | none => .stuck
/-- text.startswith(y, k) -/
noncomputable def startsL (x y : List Nat) (k : Nat) : Bool := preL y (x.drop k)
noncomputable def mStarts3 (x : List Nat) (y k : AV) (σ : St) : Out AV := match strOf y with
  | some y => (match intOf k with
    | some i => (match okInt i && Nat.ble i.toNat x.length with | true => .ok (.p (.bool (startsL x y i.toNat))) σ | false => .stuck)
    | none => .stuck)
  | none => .stuck
noncomputable def mStarts (v : AV) (args : List AV) (σ : St) : Out AV := match args with
  | [] => .stuck
  | y :: r => (match r with
    | [] => onStr (fun x y => .bool (Txt.startswith x y)) v args σ
    | k :: t => (match t with
      | [] => (match strOf v with | some x => mStarts3 x y k σ | none => .stuck)
      | _ :: _ => .stuck))
noncomputable def bmeth (b : BM) (v : AV) (args : List AV) (σ : St) : Out AV := match b with
  | .append => onObj mAppend v args σ
  | .join => (match strOf v with | some x => fun1 (mJoin x) args σ | none => .stuck)
  | .sort => mSort v args σ
  | .pop => mPop v args σ
  | .rstrip => (match strOf v with | some x => fun1 (mRstrip x) args σ | none => .stuck)
  | .split => (match strOf v with | some x => fun1 (mSplit x) args σ | none => .stuck)
  | .count => onStr (fun x y => .int (Txt.count x y)) v args σ
  | .rfind => onStr (fun x y => .int (Txt.rfind x y)) v args σ
  | .find => onStr (fun x y => .int (Txt.find x y)) v args σ
  | .startswith => mStarts v args σ

noncomputable def sliL {α : Type} (lo hi : Option Int) (l : List α) : List α := (l.drop (lo.elim 0 (clipAt l.length))).take (hi.elim l.length (clipAt l.length) - lo.elim 0 (clipAt l.length))
noncomputable def partOf : Option AV → Option (Option Int)
  | none => some none
  | some v => (intOf v).map some
noncomputable def sliV (x : AV) (lo hi : Option AV) (σ : St) : Out AV := match partOf lo, partOf hi with
  | some a, some b => (match strOf x with
    | some l => (match okLen l.length with | true => .ok (.p (.str (sliL a b l))) σ | false => .stuck)
    | none => (match lstOf σ x with
      | some l => (match okLen l.length with | true => newLst (sliL a b l) σ | false => .stuck)
      | none => .stuck))
  | _, _ => .stuck

noncomputable def isNil : Ex → Bool
  | .nil => true
  | _ => false
noncomputable def optStep (ih : Nat → Ev) (d : Nat) (e : Ex) (σ : St) : Out (Option AV) := match isNil e with
  | true => .ok none σ
  | false => ((ih d).ex e σ).bind fun v σ => .ok (some v) σ

noncomputable def setLo (i : Nat) (v : AV) (σ : St) : St := { σ with lo := σ.lo.set i (some v) }
noncomputable def unLo (i : Nat) (σ : St) : St := { σ with lo := σ.lo.set i none }
noncomputable def ofO {α : Type} (o : Option α) (k : α → St → Out AV) (σ : St) : Out AV := match o with
  | some a => k a σ
  | none => .stuck

noncomputable def insOf : AV → Option (Nat × Nat)
  | .ins C i => some (C, i)
  | _ => none
noncomputable def fldAt : Option AO → Option (List (Nat × AV))
  | some (.fld l) => some l
  | _ => none
noncomputable def hasN (k : Nat) : List Nat → Bool
  | [] => false
  | a :: r => Nat.beq a k || hasN k r
/-- the fields of an object whose class has this one -/
noncomputable def fldsOf (P : Prg) (x : AV) (n : Nat) (σ : St) : Option (Nat × List (Nat × AV)) := match insOf x with
  | none => none
  | some q => match lookN q.1 P.cls with
    | none => none
    | some k => match hasN n k.flds with
      | false => none
      | true => match fldAt σ.hp[q.2]? with
        | none => none
        | some l => some (q.2, l)
noncomputable def attOf (P : Prg) (x : AV) (n : Nat) (σ : St) : Option AV := match fldsOf P x n σ with
  | none => none
  | some q => lookN n q.2
noncomputable def methOf (P : Prg) (x : AV) (n : Nat) (σ : St) : Option Nat := match insOf x with
  | none => none
  | some q => match lookN q.1 P.cls with
    | none => none
    | some k => match fldAt σ.hp[q.2]? with
      | none => none
      | some l => (match lookN n l with | some _ => none | none => lookN n k.mths)
noncomputable def putF (n : Nat) (v : AV) : List (Nat × AV) → List (Nat × AV)
  | [] => [(n, v)]
  | q :: r => match Nat.beq q.1 n with
    | true => (q.1, v) :: r
    | false => q :: putF n v r
noncomputable def setA (P : Prg) (x : AV) (n : Nat) (v : AV) (σ : St) : Option St := match fldsOf P x n σ with
  | none => none
  | some q => match Nat.blt q.2.length 900 with
    | false => none
    | true => some { σ with hp := σ.hp.set q.1 (.fld (putF n v q.2)), hw := (match Nat.ble v.bd (Nat.max q.1 σ.hw) with | true => σ.hw | false => v.bd) }
noncomputable def newStep (P : Prg) (ih : Nat → Ev) (C : Nat) (vs : List AV) (d : Nat) (σ : St) : Out AV := match d with
  | 0 => .stuck
  | d + 1 => match lookN C P.cls with
    | none => .stuck
    | some k => ((ih d).call k.init (.ins C σ.hp.length :: vs) { σ with hp := σ.hp ++ [.fld []] }).bind fun v τ => match isNone v with
      | true => .ok (.ins C σ.hp.length) τ
      | false => .stuck

noncomputable def exStep (P : Prg) (ih : Nat → Ev) (d : Nat) (e : Ex) (σ : St) : Out AV := match e with
  | .cst v => .ok (.p v) σ
  | .loc i => (match σ.lo[i]? with | some o => ofO o .ok σ | none => .stuck)
  | .bin o a b => ((ih d).ex a σ).bind fun x σ => ((ih d).ex b σ).bind fun y σ => binop o x y σ
  | .cmp o a b => ((ih d).ex a σ).bind fun x σ => ((ih d).ex b σ).bind fun y σ => ofO (cmpop o x y σ) (fun r σ => .ok (.p (.bool r)) σ) σ
  | .not a => ((ih d).ex a σ).bind fun x σ => ofO (truth x σ) (fun r σ => .ok (.p (.bool (!r))) σ) σ
  | .neg a => ((ih d).ex a σ).bind fun x σ => ofO (intOf x) (fun i σ => .ok (.p (.int (-i))) σ) σ
  | .and a b => ((ih d).ex a σ).bind fun x σ => ofO (truth x σ) (fun r σ => match r with | true => (ih d).ex b σ | false => .ok x σ) σ
  | .or a b => ((ih d).ex a σ).bind fun x σ => ofO (truth x σ) (fun r σ => match r with | true => .ok x σ | false => (ih d).ex b σ) σ
  | .ite c a b => ((ih d).tst c σ).bind fun r σ => match r with | true => (ih d).ex a σ | false => (ih d).ex b σ
  | .tup l => ((ih d).exs l σ).bind fun vs σ => ofO (vs.mapM pOf) (fun ps σ => match okLen ps.length with | true => .ok (.p (.tup ps)) σ | false => .stuck) σ
  | .lst l => ((ih d).exs l σ).bind fun vs σ => newLst vs σ
  | .idx e i => ((ih d).ex e σ).bind fun x σ => ((ih d).ex i σ).bind fun y σ => ofO (idxOf σ x y) .ok σ
  | .sli e lo hi => ((ih d).ex e σ).bind fun x σ => (optStep ih d lo σ).bind fun a σ => (optStep ih d hi σ).bind fun b σ => sliV x a b σ
  | .callf f l => ((ih d).exs l σ).bind fun vs σ => (ih d).call f vs σ
  | .bf b l => ((ih d).exs l σ).bind fun vs σ => bfun b vs σ
  | .meth e n b l => ((ih d).ex e σ).bind fun x σ => match b with
    | some b => (match recvOk b x σ with | true => ((ih d).exs l σ).bind fun vs σ => bmeth b x vs σ | false => .stuck)
    | none => ofO (methOf P x n σ) (fun f σ => ((ih d).exs l σ).bind fun vs σ => (ih d).call f (x :: vs) σ) σ
  | .att e n => ((ih d).ex e σ).bind fun x σ => ofO (attOf P x n σ) .ok σ
  | .new C l => ((ih d).exs l σ).bind fun vs σ => newStep P ih C vs d σ
  | .cmpr i rng src tst elt => ((ih d).ex src σ).bind fun v σ => ofO (srcOf σ rng v) (fun S σ => ((ih d).cmp i S 0 [] tst elt σ).bind fun vs σ => newLst vs (unLo i σ)) σ
  | _ => .stuck

noncomputable def cmpTst (ih : Nat → Ev) (d : Nat) (c : Ex) (σ : St) : Out Bool := match isNil c with
  | true => .ok true σ
  | false => (ih d).tst c σ
noncomputable def cmpStep (ih : Nat → Ev) (d : Nat) (i : Nat) (S : Src) (k : Nat) (acc : List AV) (c e : Ex) (σ : St) : Out (List AV) := match srcAt S k σ with
  | none => .stuck
  | some o => match o with
    | none => .ok acc σ
    | some y => (cmpTst ih d c (setLo i y σ)).noX.bind fun b σ => match b with
      | false => (ih d).cmp i S (k + 1) acc c e σ
      | true => ((ih d).ex e σ).noX.bind fun x σ => (match okLen acc.length with
        | true => (ih d).cmp i S (k + 1) (acc ++ [x]) c e σ
        | false => .stuck)

noncomputable def exsStep (ih : Nat → Ev) (d : Nat) (e : Ex) (σ : St) : Out (List AV) := match e with
  | .nil => .ok [] σ
  | .cons e r => ((ih d).ex e σ).bind fun v σ => ((ih d).exs r σ).bind fun vs σ => .ok (v :: vs) σ
  | _ => .stuck

noncomputable def tstP (ih : Nat → Ev) (d : Nat) (e : Ex) (σ : St) : Out Bool := ((ih d).ex e σ).bind fun v σ => (match truth v σ with | some r => .ok r σ | none => .stuck)
noncomputable def tstStep (ih : Nat → Ev) (d : Nat) (e : Ex) (σ : St) : Out Bool := match e with
  | .not a => ((ih d).tst a σ).bind fun r σ => .ok (!r) σ
  | .and a b => ((ih d).tst a σ).bind fun r σ => match r with | true => (ih d).tst b σ | false => .ok false σ
  | .or a b => ((ih d).tst a σ).bind fun r σ => match r with | true => .ok true σ | false => (ih d).tst b σ
  | .ite _ _ _ => .stuck
  | _ => tstP ih d e σ

/-- behind a turn: go on, or leave -/
noncomputable def afterT (go : St → Out Fl) (f : Fl) (σ : St) : Out Fl := match f with
  | .next => go σ
  | .cont => go σ
  | .brk => .ok .next σ
  | .ret v => .ok (.ret v) σ

noncomputable def forStep (ih : Nat → Ev) (d fb x : Nat) (S : Src) (k : Nat) (b : Sx) (σ : St) : Out Fl := match srcAt S k σ with
  | none => .stuck
  | some o => match o with
    | none => .ok .next σ
    | some y => ((ih d).sts fb b (setLo x y σ)).bind fun f σ => afterT (fun σ => (ih d).forS fb x S (k + 1) b σ) f σ
noncomputable def whlStep (ih : Nat → Ev) (d fb : Nat) (c : Ex) (b : Sx) (σ : St) : Out Fl := ((ih d).tst c σ).bind fun r σ => match r with
  | false => .ok .next σ
  | true => ((ih d).sts fb b σ).bind fun f σ => afterT (fun σ => (ih d).whl fb c b σ) f σ

noncomputable def newOf : Ex → Option (Nat × Ex)
  | .new C l => some (C, l)
  | _ => none
/-- raise -/
noncomputable def mkExc (P : Prg) (C : Nat) (vs : List AV) (σ : St) : Out Fl := match lookN C P.exs with
  | none => .stuck
  | some ns => (match ns with
    | [] => (match okLen vs.length with | true => .exc ⟨C, [], []⟩ σ | false => .stuck)
    | _ :: _ => .stuck)
/-- a class whose __init__ sets two fields: raise C(str, int) is written .att (.att (.new C l) b) a -/
noncomputable def attOf2 : Ex → Option (Ex × Nat)
  | .att e n => some (e, n)
  | _ => none
noncomputable def fltOf (e : Ex) : Option ((Nat × Ex) × Nat × Nat) := match attOf2 e with
  | some q => (match attOf2 q.1 with
    | some r => (match newOf r.1 with | some z => some (z, q.2, r.2) | none => none)
    | none => none)
  | none => none
noncomputable def mkFlt (C a b : Nat) (vs : List AV) (σ : St) : Out Fl := match vs with
  | [] => .stuck
  | x :: r => (match r with
    | [] => .stuck
    | y :: r => (match r with
      | _ :: _ => .stuck
      | [] => (match strOf x with
        | none => .stuck
        | some l => (match intOf y with
          | none => .stuck
          | some i => (match Nat.blt l.length 1000 && (decide (0 ≤ i) && decide (i < 100)) with | true => .exc ⟨C, [a, b], [.str l, .int i]⟩ σ | false => .stuck)))))
noncomputable def rseFlt (d : Nat) (f : Ex → St → Out (List AV)) (e : Ex) (σ : St) : Out Fl := match fltOf e with
  | none => .stuck
  | some q => (match Nat.ble 2 d with | true => (f q.1.2 σ).bind fun vs σ => mkFlt q.1.1 q.2.1 q.2.2 vs σ | false => .stuck)
/-- what an except clause does: names are bound to plain values -/
noncomputable def hval (x : Exn) (i : Option Nat) (e : Ex) : Option PV := match e with
  | .cst v => some v
  | _ => none
noncomputable def asgOf : Sx → Option (Nat × Ex)
  | .asg j e => some (j, e)
  | _ => none
noncomputable def hdlS (x : Exn) (i : Option Nat) (fb : Nat) : Sx → St → Out Fl
  | .nil, σ => .ok .next (trim fb σ)
  | .cons s r, σ => (match asgOf s with
    | none => .stuck
    | some q => (match hval x i q.2 with | some v => hdlS x i fb r (setLo q.1 (.p v) σ) | none => .stuck))
  | _, _ => .stuck
/-- except C as error: one name is bound to a text and a field of the error -/
noncomputable def consOf : Ex → Option (Ex × Ex)
  | .cons a b => some (a, b)
  | _ => none
noncomputable def isNilX : Ex → Bool
  | .nil => true
  | _ => false
noncomputable def cstS : Ex → Option (List Nat)
  | .cst (.str l) => some l
  | _ => none
noncomputable def locOf : Ex → Option Nat
  | .loc i => some i
  | _ => none
noncomputable def tupX : Ex → Option Ex
  | .tup l => some l
  | _ => none
/-- the shape (text, error.field) -/
noncomputable def pairX (e : Ex) : Option (List Nat × Nat × Nat) := match tupX e with
  | none => none
  | some l => (match consOf l with
    | none => none
    | some q => (match cstS q.1 with
      | none => none
      | some t => (match consOf q.2 with
        | none => none
        | some r => (match isNilX r.2 with
          | false => none
          | true => (match attOf2 r.1 with
            | none => none
            | some z => (match locOf z.1 with | none => none | some k => some (t, k, z.2)))))))
noncomputable def fldI (x : Exn) (n : Nat) : Option Int := match x.ns with
  | [_, b] => (match Nat.beq n b with | true => (match x.vs with | [_, .int i] => some i | _ => none) | false => none)
  | _ => none
noncomputable def oneOf : Sx → Option Sx
  | .cons a .nil => some a
  | _ => none
noncomputable def hdlA (x : Exn) (j fb : Nat) (h : Sx) (τ : St) : Out Fl := match oneOf h with
  | none => .stuck
  | some a => (match asgOf a with
    | none => .stuck
    | some q => (match pairX q.2 with
      | none => .stuck
      | some z => (match Nat.beq z.2.1 j && !Nat.beq q.1 j with
        | false => .stuck
        | true => (match fldI x z.2.2 with
          | none => .stuck
          | some i => .ok .next (trim fb (unLo j (setLo q.1 (.p (.tup [.str z.1, .int i])) τ)))))))
noncomputable def hdl (x : Exn) (i : Option Nat) (fb : Nat) (h : Sx) (τ : St) : Out Fl := match i with
  | none => hdlS x none fb h τ
  | some j => hdlA x j fb h τ
noncomputable def tryStep (fb : Nat) (o : Out Fl) (C : Nat) (i : Option Nat) (h : Sx) : Out Fl := match o with
  | .ok f τ => .ok f τ
  | .exc x τ => (match Nat.beq x.C C with | true => hdl x i fb h τ | false => .stuck)
  | .stuck => .stuck

noncomputable def stStep (P : Prg) (ih : Nat → Ev) (d fb : Nat) (s : Sx) (σ : St) : Out Fl := match s with
  | .expr e => ((ih d).ex e σ).bind fun _ σ => .ok .next (trim fb σ)
  | .asg i e => ((ih d).ex e σ).bind fun v σ => .ok .next (trim fb (setLo i v σ))
  | .asgA o n e => ((ih d).ex e σ).bind fun v σ => ((ih d).ex o σ).bind fun x σ => (match setA P x n v σ with | some τ => .ok .next (trim fb τ) | none => .stuck)
  | .ite c a b => ((ih d).tst c σ).bind fun r σ => match r with | true => (ih d).sts fb a (trim fb σ) | false => (ih d).sts fb b (trim fb σ)
  | .whl c b => (ih d).whl fb c b σ
  | .forS x rng e b => ((ih d).ex e σ).bind fun v σ => (match srcOf σ rng v with
    | some S => (ih d).forS (Nat.max fb S.bd) x S 0 b σ
    | none => .stuck)
  | .ret e => ((ih d).ex e σ).bind fun v σ => .ok (.ret v) σ
  | .ret0 => .ok (.ret (.p .none)) σ
  | .pass => .ok .next σ
  | .brk => .ok .brk σ
  | .cont => .ok .cont σ
  | .rse e => (match newOf e with | some q => ((ih d).exs q.2 σ).bind fun vs σ => mkExc P q.1 vs σ | none => rseFlt d (ih d).exs e σ)
  | .tryC b C i h => tryStep fb ((ih d).sts fb b σ) C i h
  | _ => .stuck

noncomputable def andThen (go : St → Out Fl) (f : Fl) (σ : St) : Out Fl := match f with
  | .next => go σ
  | f => .ok f σ
noncomputable def stsStep (P : Prg) (ih : Nat → Ev) (d fb : Nat) (s : Sx) (σ : St) : Out Fl := match s with
  | .nil => .ok .next σ
  | .cons s r => (stStep P ih d fb s σ).bind fun f σ => andThen (fun σ => (ih d).sts fb r σ) f σ
  | _ => .stuck

noncomputable def ev (P : Prg) : Nat → Nat → Ev
  | 0 => fun _ => Ev.none
  | n + 1 => fun d => ⟨exStep P (ev P n) d, exsStep (ev P n) d, tstStep (ev P n) d, stsStep P (ev P n) d, callStep P (ev P n) d, whlStep (ev P n) d, forStep (ev P n) d, cmpStep (ev P n) d⟩

end Mine
set_option genSizeOf false
set_option genInjectivity false
namespace Mine
open PySem PySem.W PyProof.Rows PySem.Calls

structure Gl where
  prog : Program
  w : World
  K : Frag
  p : Program
  loose : List Str
  mean : ExcName → Option Value
  mg : Str → Option Value
  mb : Str → Option Value
  hb : Heap
  an : List Str
  fx : Option (FltP prog K an)

/-- names and cells of a frame -/
structure Nm where
  fn : Str → Option Value
  cel : Led

/-- where a slot lies: in the frame's namespace, in a cell, in a comprehension's namespace -/
inductive Pl where
  | loc (x : Str)
  | cell (a : Addr)
  | cmp (x : Str)

structure Fm where
  A₀ : Around
  base : Heap
  h₀ : Heap
  outer : List Env
  L : Addr
  f : Addr
  qual : Str
  scope : Scope
  cdv : Value
  cl : List (Str × Addr)
  env : Env
  C : Addr
  pl : List Pl
  ns : List Str
  cv : List Str
  cm : Bool
  top : Bool
abbrev Fm.fenv (Φ : Fm) : Env := envX Φ.qual Φ.scope Φ.L Φ.f Φ.cdv Φ.cl
abbrev Fm.A (Φ : Fm) : Around := Φ.A₀.deeper Φ.fenv

structure FmOk (G : Gl) (Φ : Fm) (d : Nat) : Prop where
  B : Below Φ.A₀ Φ.base Φ.outer Φ.h₀
  X : G.K.In Φ.h₀
  T : Top G.p G.loose G.mean G.mg G.mb Φ.h₀
  kb : G.hb.StaysIn Φ.h₀
  Kb : G.K.In G.hb
  fn : Φ.scope.kind = .function
  dp : Φ.A₀.depth + 1 + d < recursionLimit
  un : Φ.A₀.units + 3 + 20 * (d + 1) < cLine
  hd : Φ.A₀.handled = none
  nn : Φ.pl.Nodup
  na : G.an.Nodup
  ek : Φ.env.scope.kind = .function
  eg : Φ.env.globals = mainGlobals
  eb : Φ.env.builtins = builtinsNs
  lo : ∀ (i : Nat) x, Φ.cm = false → Φ.ns[i]? = some x → Φ.env.scope.names.lookup x = some .local → Φ.env.locals = Φ.L ∧ Φ.pl[i]? = some (.loc x)
  ce : ∀ (i : Nat) x, Φ.ns[i]? = some x → Φ.env.scope.names.lookup x = some .cell → ∃ a, Φ.env.cells.lookup x = some a ∧ Φ.pl[i]? = some (.cell a)
  cv : ∀ (j : Nat) x, Φ.cm = true → Φ.cv[j]? = some x → Φ.env.scope.names.lookup x = some .local → Φ.env.locals = Φ.C ∧ Φ.pl[Φ.ns.length + j]? = some (.cmp x)
  fe : Φ.cm = false → Φ.env = Φ.fenv ∧ Φ.cv = [] ∧ Φ.pl.length = Φ.ns.length ∧ ∀ x, Pl.cmp x ∉ Φ.pl
  tp : Φ.top = true → Φ.outer = []

/-- an object that is a namespace -/
noncomputable def NsObj (o : Obj) (mm : Str → Option Value) : Prop := ∀ (h : Heap) (a : Addr), h.get? a = some o → h.Ns a mm

noncomputable def Pl.reads (C : Addr) (m : Nm) (v : Value) : Pl → Prop
  | .loc x => m.fn x = some v
  | .cell a => ∃ o, (a, o) ∈ m.cel ∧ o.data = .cell (some v)
  | .cmp x => ∃ o mm, (C, o) ∈ m.cel ∧ NsObj o mm ∧ mm x = some v

structure Re (G : Gl) (Φ : Fm) (own : Led) (σ : St) (h : Heap) (m : Nm) (trk frz : Led) : Prop where
  F : Fr Φ.h₀ Φ.L h m.fn
  N : News Φ.h₀ Φ.L h (trk ++ (frz ++ (m.cel ++ own)))
  nd : ((trk ++ (frz ++ (m.cel ++ own))).map (·.1)).Nodup
  hp : All2 (fun ao (q : Addr × Obj) => ORel G.an G.w.params G.hb (trk.map (·.1)) frz ao q.2) σ.hp trk
  bd : ∀ (k : Nat) (ao : AO), σ.hp[k]? = some ao → ao.bd ≤ Nat.max k σ.hw
  hw : σ.hw ≤ σ.hp.length
  lo : ∀ (i : Nat) (v : AV), σ.lo[i]? = some (some v) → ∃ p v', Φ.pl[i]? = some p ∧ p.reads Φ.C m v' ∧ VRel G.an G.hb (trk.map (·.1)) frz v v'
  ca : ∀ a, Pl.cell a ∈ Φ.pl → ∃ o v, (a, o) ∈ m.cel ∧ o.data = .cell v

/-- an exception object in flight at a frame whose names lie at L -/
noncomputable def ExA (h B : Heap) (e : Addr) (cls : Value) (dct : Option Addr) (L : Addr) : Prop := B.get? e = none ∧ ((∃ oe vs, h.get? e = some oe ∧ oe.cls = cls ∧ oe.dict = dct ∧ oe.data = .fields vs ∧ vs[1]? = some .none) ∨ TrD h B e cls dct .none ∨ TrD h B e cls dct (rawInt L))
/-- hr: the heap at the raise; B: what of it stands still -/
structure XAt (Φ : Fm) (led : Led) (x : Exn) (e : Addr) (dct : Option Addr) (hr B h : Heap) : Prop where
  led : ∀ q ∈ led, B.get? q.1 = some q.2
  kp : ∀ b o, Φ.h₀.get? b = some o → b ∉ Φ.outer.filterMap (·.frame) → B.get? b = some o
  st : B.StaysIn h
  ff : h.FunFrames B (Φ.fenv :: Φ.outer)
  up : hr.UpToSlots h
  ob : ExA h B e (.ref x.C) dct Φ.L
/-- the fields of a fault -/
noncomputable def FldX (G : Gl) (x : Exn) (dct : Option Addr) (B : Heap) : Prop := x.ns = [] ∨ ∃ f i t dx o mA l, G.fx = some f ∧ x = ⟨f.D.C, [f.ia, f.ib], [.str l, .int i]⟩ ∧ dct = some dx ∧ B.get? dx = some o ∧ N1Obj o mA ∧ mA f.D.nb = some (.int i t)
/-- an exception in flight at this frame -/
noncomputable def XCore (G : Gl) (Φ : Fm) (own : Led) (x : Exn) (σ : St) (m : Nm) (trk frz : Led) (e : Addr) (h : Heap) : Prop := ∃ hr B dct, Re G Φ own σ hr m trk frz ∧ XAt Φ (trk ++ (frz ++ (m.cel ++ own))) x e dct hr B h ∧ FldX G x dct B

noncomputable def Post {α β : Type} (R : List Addr → Led → α → β → Prop) (G : Gl) (Φ : Fm) (own : Led) (m : Nm) (trk frz : Led) (s : Shared) (o : Out α) (Q : β → Shared → Prop) (E : Value → Shared → Prop) : Prop := match o with
  | .ok a σ' => ∀ b h' tk' trk' frz', Re G Φ own σ' h' m trk' frz' → trk.map (·.1) <+: trk'.map (·.1) → (∀ q ∈ frz, q ∈ frz') → R (trk'.map (·.1)) frz' a b → Q b { s with heap := h', toks := tk' }
  | .exc x σ' => ∀ e h' tk' m' trk' frz', XCore G Φ own x σ' m' trk' frz' e h' → trk.map (·.1) <+: trk'.map (·.1) → (∀ q ∈ frz, q ∈ frz') → E (.ref e) { s with heap := h', toks := tk' }
  | .stuck => False

section
variable {α β γ δ : Type} {R : List Addr → Led → α → β → Prop} {S : List Addr → Led → γ → δ → Prop} {G : Gl} {Φ : Fm} {own : Led} {m : Nm} {trk frz : Led} {s : Shared} {E : Value → Shared → Prop}
theorem Post.later {trk₁ frz₁ : Led} {h₁ : Heap} {tk₁ : Nat} {o : Out γ} {Q : δ → Shared → Prop} (h : Post S G Φ own m trk frz s o Q E) (hp : trk.map (·.1) <+: trk₁.map (·.1)) (hf : ∀ q ∈ frz, q ∈ frz₁) :
    Post S G Φ own m trk₁ frz₁ { s with heap := h₁, toks := tk₁ } o Q E := by
  cases o with
  | ok a σ => exact fun b h' tk' trk' frz' r p q v => h b h' tk' trk' frz' r (hp.trans p) (fun x hx => q x (hf x hx)) v
  | exc x σ => exact fun e h' tk' m' trk' frz' r p q => h e h' tk' m' trk' frz' r (hp.trans p) (fun x hx => q x (hf x hx))
  | stuck => exact h
theorem Post.bind {o : Out α} {k : α → St → Out γ} {Q : δ → Shared → Prop} {Q' : β → Shared → Prop} (h : Post S G Φ own m trk frz s (o.bind k) Q E)
    (step : ∀ a σ₁ b h₁ tk₁ trk₁ frz₁, o = .ok a σ₁ → Re G Φ own σ₁ h₁ m trk₁ frz₁ → trk.map (·.1) <+: trk₁.map (·.1) → (∀ q ∈ frz, q ∈ frz₁) → R (trk₁.map (·.1)) frz₁ a b →
      Post S G Φ own m trk₁ frz₁ { s with heap := h₁, toks := tk₁ } (k a σ₁) Q E → Q' b { s with heap := h₁, toks := tk₁ }) : Post R G Φ own m trk frz s o Q' E := by
  cases o with
  | ok a σ => exact fun b h' tk' trk' frz' r p q v => step a σ b h' tk' trk' frz' rfl r p q v (Post.later h p q)
  | exc x σ => exact h
  | stuck => exact h.elim
theorem Post.ret {a : α} {b : β} {σ : St} {Q : β → Shared → Prop} {tk : Nat} (h : Post R G Φ own m trk frz s (.ok a σ) Q E) (r : Re G Φ own σ s.heap m trk frz) (v : R (trk.map (·.1)) frz a b) : Q b { s with toks := tk } :=
  h b s.heap tk trk frz r (List.prefix_refl _) (fun _ q => q) v
theorem Post.ret0 {a : α} {b : β} {σ : St} {Q : β → Shared → Prop} (h : Post R G Φ own m trk frz s (.ok a σ) Q E) (r : Re G Φ own σ s.heap m trk frz) (v : R (trk.map (·.1)) frz a b) : Q b s :=
  h b s.heap s.toks trk frz r (List.prefix_refl _) (fun _ q => q) v
end

abbrev VR (G : Gl) : List Addr → Led → AV → Value → Prop := VRel G.an G.hb
abbrev VRs (G : Gl) : List Addr → Led → List AV → List Value → Prop := fun ι frz => All2 (VRel G.an G.hb ι frz)
abbrev BR : List Addr → Led → Bool → Bool → Prop := fun _ _ a b => a = b

noncomputable def SEx (G : Gl) (Φ : Fm) (e : Expr) (r : St → Out AV) : Prop := ∀ own σ s m trk frz Q E, Re G Φ own σ s.heap m trk frz → Post (VR G) G Φ own m trk frz s (r σ) Q E → wpAny (model G.prog G.w) Φ.A (eval e Φ.env) Q E s
noncomputable def SExs (G : Gl) (Φ : Fm) (l : List Expr) (r : St → Out (List AV)) : Prop := ∀ pos own σ s m trk frz Q E, Re G Φ own σ s.heap m trk frz → Post (VRs G) G Φ own m trk frz s (r σ) Q E → wpAny (model G.prog G.w) Φ.A (spliced (backTo pos (starEach l Φ.env))) Q E s
noncomputable def STs (G : Gl) (Φ : Fm) (e : Expr) (r : St → Out Bool) : Prop := ∀ own σ s m trk frz Q E, Re G Φ own σ s.heap m trk frz → Post BR G Φ own m trk frz s (r σ) Q E → wpAny (model G.prog G.w) Φ.A (isTrue e Φ.env (eval e Φ.env)) Q E s

structure CC where
  K : Frag
  scope : Scope
  ns : List Str
  cv : List Str
  cm : Bool
  an : List Str
  top : Bool
  fx : Option (Nat × Nat × Nat)

/-- a comprehension's scope within a function's -/
noncomputable def relabS (sc fs : Scope) : Scope := { sc with names := sc.names.map fun (n, k) => if (k == .free && fs.kind == .function && fs.names.lookup n == some .cell) then (n, .cell) else (n, k) }
noncomputable def CC.inner (c : CC) (sc : Scope) (x : Str) : CC := ⟨c.K, relabS sc c.scope, c.ns, [x], true, c.an, c.top, c.fx⟩
/-- what a comprehension's scope must be -/
noncomputable def compSc (c : CC) (sc : Scope) (x : Str) : Bool := !c.cm && (match sc.kind with | .function => true | _ => false) && (sc.names.all fun y => match y.2 with
  | .cell => false
  | .free => c.scope.names.lookup y.1 == some .cell && c.ns.contains y.1
  | .local => sc.names.lookup y.1 == some .local
  | _ => true) && sc.names.lookup x == some .local

/-- top values -/
noncomputable def pvK (K : Frag) : Nat → Value → Option PV
  | _, .none => some .none
  | _, .bool b => some (.bool b)
  | _, .int i _ => some (.int i)
  | _, .str s _ => some (.str s.cps.toList)
  | n + 1, .ref a => match K.lookup a with
    | some ⟨.type "tuple", _, .seq its _, _⟩ => (its.toList.mapM (pvK K n)).map .tup
    | _ => none
  | _, _ => none

noncomputable def BFv (b : BF) (v : Value) : Bool := match b with
  | .len => v == .builtin "len"
  | .list => v == .type "list"
  | .tuple => v == .type "tuple"
  | .str => v == .type "str"
  | .int => v == .type "int"
  | .max => v == .builtin "max"

noncomputable def BM.name : BM → Str
  | .append => "append"
  | .pop => "pop"
  | .sort => "sort"
  | .join => "join"
  | .startswith => "startswith"
  | .split => "split"
  | .rstrip => "rstrip"
  | .count => "count"
  | .rfind => "rfind"
  | .find => "find"

/-- the forms that are served -/
inductive Vw where
  | cst (k : Const) (a : Nat) (b : Pos)
  | nm (x : Str) (p : Pos)
  | bin (x : Expr) (op : Operator) (y : Expr) (p : Pos)
  | cmp (x : Expr) (op : CmpOp) (y : Expr) (p : Pos)
  | un (op : UnaryOp) (x : Expr) (p : Pos)
  | bop (op : BoolOp) (x : Expr) (y : Expr) (l : List Expr) (p : Pos)
  | ifx (z : Expr) (x : Expr) (y : Expr) (p : Pos)
  | tup (es : List Expr) (a : Nat) (p : Pos)
  | lst (es : List Expr) (p : Pos)
  | sub (x : Expr) (y : Expr) (p : Pos)
  | sli (x : Expr) (l : Option Expr) (h : Option Expr) (sp : Pos) (p : Pos)
  | call (x : Str) (fp : Pos) (args : List Expr) (p : Pos)
  | meth (x : Expr) (n : Str) (ap : Pos) (args : List Expr) (p : Pos)
  | cpr (z : Expr) (x : Str) (px : Pos) (it : Expr) (ifs : List Expr) (sc : Scope) (p : Pos)
  | att (x : Expr) (n : Str) (p : Pos)
  | other
noncomputable def Vw.Ok (e : Expr) : Vw → Prop
  | .cst k a b => e = (.Constant k a b)
  | .nm x p => e = (.Name x p)
  | .bin x op y p => e = (.BinOp x op y p)
  | .cmp x op y p => e = (.Compare x [op] [y] p)
  | .un op x p => e = (.UnaryOp op x p)
  | .bop op x y l p => e = (.BoolOp op (x :: y :: l) p)
  | .ifx z x y p => e = (.IfExp z x y p)
  | .tup es a p => e = (.Tuple es a p)
  | .lst es p => e = (.List es p)
  | .sub x y p => e = (.Subscript x y p)
  | .sli x l h sp p => e = (.Subscript x (.Slice l h none sp) p)
  | .call x fp args p => e = (.Call (.Name x fp) args [] p)
  | .meth x n ap args p => e = (.Call (.Attribute x n ap) args [] p)
  | .cpr z x px it ifs sc p => e = (.ListComp z [⟨.Name x px, it, ifs, 0⟩] sc p)
  | .att x n p => e = (.Attribute x n p)
  | .other => True
noncomputable def vw : (e : Expr) → { v : Vw // v.Ok e }
  | .Constant k a b => ⟨.cst k a b, rfl⟩
  | .Name x p => ⟨.nm x p, rfl⟩
  | .BinOp x op y p => ⟨.bin x op y p, rfl⟩
  | .Compare x [op] [y] p => ⟨.cmp x op y p, rfl⟩
  | .UnaryOp op x p => ⟨.un op x p, rfl⟩
  | .BoolOp op (x :: y :: l) p => ⟨.bop op x y l p, rfl⟩
  | .IfExp z x y p => ⟨.ifx z x y p, rfl⟩
  | .Tuple es a p => ⟨.tup es a p, rfl⟩
  | .List es p => ⟨.lst es p, rfl⟩
  | .Subscript x (.Slice l h none sp) p => ⟨.sli x l h sp p, rfl⟩
  | .Subscript x (.Constant k a b) p => ⟨.sub x (.Constant k a b) p, rfl⟩
  | .Subscript x (.Name k a) p => ⟨.sub x (.Name k a) p, rfl⟩
  | .Subscript x (.BinOp k a b q) p => ⟨.sub x (.BinOp k a b q) p, rfl⟩
  | .Subscript x (.UnaryOp k a b) p => ⟨.sub x (.UnaryOp k a b) p, rfl⟩
  | .Subscript x (.Call k a b q) p => ⟨.sub x (.Call k a b q) p, rfl⟩
  | .Subscript x (.Subscript k a b) p => ⟨.sub x (.Subscript k a b) p, rfl⟩
  | .Subscript x (.Attribute k a b) p => ⟨.sub x (.Attribute k a b) p, rfl⟩
  | .Call (.Name x fp) args [] p => ⟨.call x fp args p, rfl⟩
  | .Call (.Attribute x n ap) args [] p => ⟨.meth x n ap args p, rfl⟩
  | .ListComp z [⟨.Name x px, it, ifs, 0⟩] sc p => ⟨.cpr z x px it ifs sc p, rfl⟩
  | .Attribute x n p => ⟨.att x n p, rfl⟩
  | e => ⟨.other, trivial⟩
noncomputable def Vw.on (v : Vw) (cst : Const → Nat → Pos → Bool := fun _ _ _ => false) (nm : Str → Pos → Bool := fun _ _ => false) (bin : Expr → Operator → Expr → Pos → Bool := fun _ _ _ _ => false) (cmp : Expr → CmpOp → Expr → Pos → Bool := fun _ _ _ _ => false) (un : UnaryOp → Expr → Pos → Bool := fun _ _ _ => false) (bop : BoolOp → Expr → Expr → List Expr → Pos → Bool := fun _ _ _ _ _ => false) (ifx : Expr → Expr → Expr → Pos → Bool := fun _ _ _ _ => false) (tup : List Expr → Nat → Pos → Bool := fun _ _ _ => false) (lst : List Expr → Pos → Bool := fun _ _ => false) (sub : Expr → Expr → Pos → Bool := fun _ _ _ => false) (sli : Expr → Option Expr → Option Expr → Pos → Pos → Bool := fun _ _ _ _ _ => false) (call : Str → Pos → List Expr → Pos → Bool := fun _ _ _ _ => false) (meth : Expr → Str → Pos → List Expr → Pos → Bool := fun _ _ _ _ _ => false) (cpr : Expr → Str → Pos → Expr → List Expr → Scope → Pos → Bool := fun _ _ _ _ _ _ _ => false) (att : Expr → Str → Pos → Bool := fun _ _ _ => false) : Bool := match v with
  | .cst a0 a1 a2 => cst a0 a1 a2
  | .nm a0 a1 => nm a0 a1
  | .bin a0 a1 a2 a3 => bin a0 a1 a2 a3
  | .cmp a0 a1 a2 a3 => cmp a0 a1 a2 a3
  | .un a0 a1 a2 => un a0 a1 a2
  | .bop a0 a1 a2 a3 a4 => bop a0 a1 a2 a3 a4
  | .ifx a0 a1 a2 a3 => ifx a0 a1 a2 a3
  | .tup a0 a1 a2 => tup a0 a1 a2
  | .lst a0 a1 => lst a0 a1
  | .sub a0 a1 a2 => sub a0 a1 a2
  | .sli a0 a1 a2 a3 a4 => sli a0 a1 a2 a3 a4
  | .call a0 a1 a2 a3 => call a0 a1 a2 a3
  | .meth a0 a1 a2 a3 a4 => meth a0 a1 a2 a3 a4
  | .cpr a0 a1 a2 a3 a4 a5 a6 => cpr a0 a1 a2 a3 a4 a5 a6
  | .att a0 a1 a2 => att a0 a1 a2
  | .other => false
noncomputable def Vw.known (v : Vw) : Bool := v.on (fun _ _ _ => true) (fun _ _ => true) (fun _ _ _ _ => true) (fun _ _ _ _ => true) (fun _ _ _ => true) (fun _ _ _ _ _ => true) (fun _ _ _ _ => true) (fun _ _ _ => true) (fun _ _ => true) (fun _ _ _ => true) (fun _ _ _ _ _ => true) (fun _ _ _ _ => true) (fun _ _ _ _ _ => true) (fun _ _ _ _ _ _ _ => true) (fun _ _ _ => true)
noncomputable def noStar (e : Expr) : Bool := (vw e).1.known
noncomputable def noFold (e : Expr) : Bool := (vw e).1.known
noncomputable def noSwap (e : Expr) : Bool := (vw e).1.known && !(vw e).1.on (cpr := fun _ _ _ _ _ _ _ => true)
noncomputable def noSlice (e : Expr) : Bool := (vw e).1.known && !(vw e).1.on (tup := fun _ _ _ => true)
noncomputable def abOk (e : Expr) : Bool := (vw e).1.known && !(vw e).1.on (call := fun _ _ args _ => args.isEmpty)

noncomputable def isLoc (c : CC) (x : Str) : Bool := c.scope.names.lookup x == some .local
noncomputable def isCel (c : CC) (x : Str) : Bool := c.scope.names.lookup x == some .cell
noncomputable def isGlob (c : CC) (x : Str) : Bool := c.scope.names.lookup x == some .globalImplicit && !(x == ("__debug__" : Str))
/-- a name that the builtins give -/
noncomputable def isBt (c : CC) (x : Str) (v : Value → Bool) : Bool := isGlob c x && nsIn c.K mainGlobals x == some none && (match bootBuiltins x with | some u => v u | none => false) && !(x == ("__name__" : Str))
/-- a def or class of the text -/
noncomputable def isTop (c : CC) (x : Str) (f : Nat) : Bool := isGlob c x && nsIn c.K mainGlobals x == some (some (.ref f)) && keepIn c.K (.ref f)
/-- the slot of a name that is read -/
noncomputable def isSlot (c : CC) (x : Str) (i : Nat) : Bool := !(x == ("__debug__" : Str)) && ((!c.cm && isLoc c x && c.ns[i]? == some x) || (isCel c x && c.ns[i]? == some x) || (c.cm && isLoc c x && Nat.ble c.ns.length i && c.cv[i - c.ns.length]? == some x))
/-- a name that may be bound -/
noncomputable def isWr (c : CC) (x : Str) (i : Nat) : Bool := !c.cm && c.ns[i]? == some x && (isLoc c x || isCel c x)

noncomputable def eqC : Const → PV → Bool
  | .none, .none => true
  | .bool a, .bool b => a == b
  | .int a, .int b => a == b
  | .str a, .str b => a == ⟨b.toArray⟩
  | _, _ => false
noncomputable def eqP : Nat → PV → PV → Bool
  | 0, _, _ => false
  | n + 1, x, y => match x, y with
    | .none, .none => true
    | .bool a, .bool b => a == b
    | .int a, .int b => a == b
    | .str a, .str b => eqL a b
    | .tup a, .tup b => eqPs (eqP n) a b
    | _, _ => false
where eqPs (f : PV → PV → Bool) : List PV → List PV → Bool
  | [], [] => true
  | a :: r, b :: t => f a b && eqPs f r t
  | _, _ => false

noncomputable def bopOk : Operator → Bop → Bool
  | .Add, .add => true
  | .Sub, .sub => true
  | .Mult, .mul => true
  | .FloorDiv, .fdiv => true
  | .Mod, .mod => true
  | _, _ => false
noncomputable def copOk : CmpOp → Cop → Bool
  | .Eq, .eq => true
  | .NotEq, .ne => true
  | .Lt, .lt => true
  | .LtE, .le => true
  | .Gt, .gt => true
  | .GtE, .ge => true
  | .In, .isin => true
  | .NotIn, .notin => true
  | .Is, .is => true
  | .IsNot, .isnot => true
  | _, _ => false

section
variable (f : CC → Expr → Ex → Bool) (g : CC → List Expr → Ex → Bool) (c : CC)
noncomputable def ckCst (v : PV) (u : Vw) : Bool := u.on (cst := fun k _ _ => eqC k v) (nm := fun x _ => isGlob c x && (match nsIn c.K mainGlobals x with | some (some u) => (match pvK c.K 9 u with | some p => eqP 20 p v | none => false) | _ => false))
noncomputable def ckLoc (i : Nat) (v : Vw) : Bool := v.on (nm := fun x _ => isSlot c x i)
noncomputable def ckBin (o : Bop) (a b : Ex) (v : Vw) : Bool := v.on (bin := fun x op y _ => bopOk op o && (f c x a && f c y b))
noncomputable def ckCmp (o : Cop) (a b : Ex) (v : Vw) : Bool := v.on (cmp := fun x op y _ => (copOk op o && !behindInMarks op y) && (f c x a && f c y b))
noncomputable def ckNot (a : Ex) (v : Vw) : Bool := v.on (un := fun op x _ => (match op with | .Not => f c x a | _ => false))
noncomputable def ckNeg (a : Ex) (v : Vw) : Bool := v.on (un := fun op x _ => (match op with | .USub => f c x a | _ => false))
noncomputable def isAnd : BoolOp → Bool
  | .And => true
  | .Or => false
noncomputable def ckBool (w : Bool) (a b : Ex) (v : Vw) : Bool := v.on (bop := fun op x y l pos => (isAnd op == w) && (f c x a && (match l with | [] => f c y b | _ :: _ => f c (.BoolOp op (y :: l) pos) b)))
noncomputable def ckIte (t a b : Ex) (v : Vw) : Bool := v.on (ifx := fun z x y _ => f c z t && (f c x a && f c y b))
noncomputable def ckTup (l : Ex) (v : Vw) : Bool := v.on (tup := fun es _ _ => g c es l)
noncomputable def ckLst (l : Ex) (v : Vw) : Bool := v.on (lst := fun es _ => g c es l)
noncomputable def ckIdx (a b : Ex) (v : Vw) : Bool := v.on (sub := fun x y _ => noSlice y && (f c x a && f c y b))
noncomputable def ckOpt (e : Option Expr) (x : Ex) : Bool := match e with
  | none => isNil x
  | some e => !isNil x && f c e x
noncomputable def ckSli (a lo hi : Ex) (v : Vw) : Bool := v.on (sli := fun x l h _ _ => f c x a && (ckOpt f c l lo && ckOpt f c h hi))
noncomputable def ckCall (k : Nat) (l : Ex) (v : Vw) : Bool := v.on (call := fun x _ args _ => isTop c x k && g c args l)
noncomputable def ckBf (b : BF) (l : Ex) (v : Vw) : Bool := v.on (call := fun x _ args _ => isBt c x (BFv b) && g c args l)
noncomputable def ckMeth (a : Ex) (i : Nat) (b : Option BM) (l : Ex) (v : Vw) : Bool := v.on (meth := fun x n ap args pos => (c.an[i]? == some n && (match b with | some b => n == b.name | none => true)) && (abOk x && (ap.endLine == pos.line)) && (Nat.blt args.length 29 && (f c x a && g c args l)))
noncomputable def ckAtt (a : Ex) (i : Nat) (v : Vw) : Bool := v.on (att := fun x n _ => (c.an[i]? == some n) && (abOk x && f c x a))
noncomputable def ckIter (rng : Md) (a : Ex) (e : Expr) : Bool := match rng with
  | .rev => (vw e).1.on (call := fun x _ args _ => match args with | [e] => isBt c x (fun v => v == .type "reversed") && (noStar e && f c e a) | _ => false)
  | .seq => noFold e && f c e a
  | .rng => (vw e).1.on (call := fun x _ args _ => match args with | [e] => isBt c x (fun v => v == .type "range") && (noStar e && f c e a) | _ => false)
noncomputable def ckTst (x : Ex) : List Expr → Bool
  | [] => isNil x
  | [t] => !isNil x && f c t x
  | _ => false
noncomputable def ckCmpr (i : Nat) (rng : Md) (src tst elt : Ex) (v : Vw) : Bool := v.on (cpr := fun e x _ it ifs sc _ => (Nat.beq i c.ns.length && compSc c sc x) && (ckIter f c rng src it && (ckTst f (c.inner sc x) tst ifs && f (c.inner sc x) e elt)))
noncomputable def ckL (l : List Expr) (x : Ex) : Bool := match x with
  | .nil => l.isEmpty
  | .cons a r => (match l with | [] => false | e :: l => noStar e && (f c e a && g c l r))
  | _ => false
end

structure CkF where
  e : CC → Expr → Ex → Bool
  l : CC → List Expr → Ex → Bool
noncomputable def ckX (F : CkF) (c : CC) (v : Vw) (x : Ex) : Bool := match x with
  | .cst u => ckCst c u v
  | .loc i => ckLoc c i v
  | .bin o a b => ckBin F.e c o a b v
  | .cmp o a b => ckCmp F.e c o a b v
  | .not a => ckNot F.e c a v
  | .neg a => ckNeg F.e c a v
  | .and a b => ckBool F.e c true a b v
  | .or a b => ckBool F.e c false a b v
  | .ite t a b => ckIte F.e c t a b v
  | .tup l => ckTup F.l c l v
  | .lst l => ckLst F.l c l v
  | .idx a b => ckIdx F.e c a b v
  | .sli a lo hi => ckSli F.e c a lo hi v
  | .callf k l => ckCall F.l c k l v
  | .bf b l => ckBf F.l c b l v
  | .att a i => ckAtt F.e c a i v
  | .new k l => ckCall F.l c k l v
  | .meth a i b l => ckMeth F.e F.l c a i b l v
  | .cmpr i rng src tst elt => ckCmpr F.e c i rng src tst elt v
  | _ => false
noncomputable def ckStep (F : CkF) : CkF := ⟨fun c e x => ckX F c (vw e).1 x, fun c l x => ckL F.e F.l c l x⟩
noncomputable def ck : Nat → CkF
  | 0 => ⟨fun _ _ _ => false, fun _ _ _ => false⟩
  | n + 1 => ckStep (ck n)

noncomputable def Cm (c : CC) (e : Expr) (x : Ex) : Prop := ∃ n, (ck n).e c e x = true
noncomputable def Cms (c : CC) (l : List Expr) (x : Ex) : Prop := ∃ n, (ck n).l c l x = true

/-- the forms of statements -/
inductive Vs where
  | expr (e : Expr) (p : Pos)
  | asg (x : Str) (px : Pos) (e : Expr) (p : Pos)
  | ite (z : Expr) (x : List Stmt) (y : List Stmt) (p : Pos)
  | whl (z : Expr) (x : List Stmt) (p : Pos)
  | fors (x : Str) (px : Pos) (e : Expr) (l : List Stmt) (p : Pos)
  | ret (e : Expr) (p : Pos)
  | ret0 (p : Pos)
  | pass (p : Pos)
  | brk (p : Pos)
  | cont (p : Pos)
  | asgA (x : Expr) (n : Str) (ap : Pos) (e : Expr) (p : Pos)
  | rse (x : Str) (fp : Pos) (args : List Expr) (cp : Pos) (p : Pos)
  | rseA (a : Option Expr) (b : Option Expr) (p : Pos)
  | tryC (b : List Stmt) (x : Str) (px : Pos) (n : Option Str) (h₀ : Stmt) (h : List Stmt) (hp : Pos) (p : Pos)
  | other
noncomputable def Vs.Ok (t₀ : Stmt) : Vs → Prop
  | .expr e p => t₀ = (.Expr e p)
  | .asg x px e p => t₀ = (.Assign [.Name x px] e p)
  | .ite z x y p => t₀ = (.If z x y p)
  | .whl z x p => t₀ = (.While z x [] p)
  | .fors x px e l p => t₀ = (.For (.Name x px) e l [] p)
  | .ret e p => t₀ = (.Return (some e) p)
  | .ret0 p => t₀ = (.Return none p)
  | .pass p => t₀ = (.Pass p)
  | .brk p => t₀ = (.Break p)
  | .cont p => t₀ = (.Continue p)
  | .asgA x n ap e p => t₀ = (.Assign [.Attribute x n ap] e p)
  | .rse x fp args cp p => t₀ = (.Raise (some (.Call (.Name x fp) args [] cp)) none p)
  | .rseA a b p => t₀ = (.Raise a b p)
  | .tryC b x px n h₀ h hp p => t₀ = (.Try b [.ExceptHandler (some (.Name x px)) n (h₀ :: h) hp] [] [] p)
  | .other => True
noncomputable def vs : (e : Stmt) → { v : Vs // v.Ok e }
  | .Expr e p => ⟨.expr e p, rfl⟩
  | .Assign [.Name x px] e p => ⟨.asg x px e p, rfl⟩
  | .Assign [.Attribute x n ap] e p => ⟨.asgA x n ap e p, rfl⟩
  | .If z x y p => ⟨.ite z x y p, rfl⟩
  | .While z x [] p => ⟨.whl z x p, rfl⟩
  | .For (.Name x px) e l [] p => ⟨.fors x px e l p, rfl⟩
  | .Return (some e) p => ⟨.ret e p, rfl⟩
  | .Return none p => ⟨.ret0 p, rfl⟩
  | .Pass p => ⟨.pass p, rfl⟩
  | .Break p => ⟨.brk p, rfl⟩
  | .Continue p => ⟨.cont p, rfl⟩
  | .Raise (some (.Call (.Name x fp) args [] cp)) none p => ⟨.rse x fp args cp p, rfl⟩
  | .Raise a b p => ⟨.rseA a b p, rfl⟩
  | .Try b [.ExceptHandler (some (.Name x px)) n (h₀ :: h) hp] [] [] p => ⟨.tryC b x px n h₀ h hp p, rfl⟩
  | e => ⟨.other, trivial⟩
noncomputable def Vs.on (v : Vs) (expr : Expr → Pos → Bool := fun _ _ => false) (asg : Str → Pos → Expr → Pos → Bool := fun _ _ _ _ => false) (ite : Expr → List Stmt → List Stmt → Pos → Bool := fun _ _ _ _ => false) (whl : Expr → List Stmt → Pos → Bool := fun _ _ _ => false) (fors : Str → Pos → Expr → List Stmt → Pos → Bool := fun _ _ _ _ _ => false) (ret : Expr → Pos → Bool := fun _ _ => false) (ret0 : Pos → Bool := fun _ => false) (pass : Pos → Bool := fun _ => false) (brk : Pos → Bool := fun _ => false) (cont : Pos → Bool := fun _ => false) (asgA : Expr → Str → Pos → Expr → Pos → Bool := fun _ _ _ _ _ => false) (rse : Str → Pos → List Expr → Pos → Pos → Bool := fun _ _ _ _ _ => false) (rseA : Option Expr → Option Expr → Pos → Bool := fun _ _ _ => false) (tryC : List Stmt → Str → Pos → Option Str → Stmt → List Stmt → Pos → Pos → Bool := fun _ _ _ _ _ _ _ _ => false) : Bool := match v with
  | .expr a0 a1 => expr a0 a1
  | .asg a0 a1 a2 a3 => asg a0 a1 a2 a3
  | .ite a0 a1 a2 a3 => ite a0 a1 a2 a3
  | .whl a0 a1 a2 => whl a0 a1 a2
  | .fors a0 a1 a2 a3 a4 => fors a0 a1 a2 a3 a4
  | .ret a0 a1 => ret a0 a1
  | .ret0 a0 => ret0 a0
  | .pass a0 => pass a0
  | .brk a0 => brk a0
  | .cont a0 => cont a0
  | .asgA a0 a1 a2 a3 a4 => asgA a0 a1 a2 a3 a4
  | .rse a0 a1 a2 a3 a4 => rse a0 a1 a2 a3 a4
  | .rseA a0 a1 a2 => rseA a0 a1 a2
  | .tryC a0 a1 a2 a3 a4 a5 a6 a7 => tryC a0 a1 a2 a3 a4 a5 a6 a7
  | .other => false
section
variable (f : CC → Stmt → Sx → Bool) (g : CC → List Stmt → Sx → Bool) (h : CC → Expr → Ex → Bool) (c : CC)
noncomputable def ckSExpr (a : Ex) (v : Vs) : Bool := v.on (expr := fun e _ => noSwap e && h c e a)
noncomputable def ckSAsg (i : Nat) (a : Ex) (v : Vs) : Bool := v.on (asg := fun x _ e _ => isWr c x i && h c e a)
noncomputable def ckSAsgA (a : Ex) (i : Nat) (b : Ex) (v : Vs) : Bool := v.on (asgA := fun x n _ e _ => (c.an[i]? == some n && noSwap e) && (h c e b && h c x a))
noncomputable def ckSIte (t : Ex) (a b : Sx) (v : Vs) : Bool := v.on (ite := fun z x y _ => h c z t && (g c x a && g c y b))
noncomputable def ckSWhl (t : Ex) (b : Sx) (v : Vs) : Bool := v.on (whl := fun z x _ => !c.cm && (h c z t && g c x b))
noncomputable def ckSFor (i : Nat) (rng : Md) (a : Ex) (b : Sx) (v : Vs) : Bool := v.on (fors := fun x _ e l _ => isWr c x i && (ckIter h c rng a e && g c l b))
noncomputable def ckSRet (a : Ex) (v : Vs) : Bool := v.on (ret := fun e _ => h c e a)
noncomputable def ckSRet0 (v : Vs) : Bool := v.on (ret0 := fun _ => true)
noncomputable def ckSPass (v : Vs) : Bool := v.on (pass := fun _ => true)
noncomputable def ckSBrk (v : Vs) : Bool := v.on (brk := fun _ => true)
noncomputable def ckSCont (v : Vs) : Bool := v.on (cont := fun _ => true)
noncomputable def ckSRse (hl : CC → List Expr → Ex → Bool) (e : Ex) (v : Vs) : Bool := match e with
  | .nil => v.on (rse := fun _ _ _ _ _ => true) (rseA := fun _ _ _ => true)
  | .new C l => v.on (rse := fun x _ args _ _ => (!c.cm && isTop c x C) && (excIn c.K C bmVE "ValueError.__new__" && hl c args l))
  | .att e' a => (match fltOf (.att e' a) with
    | some q => v.on (rse := fun x _ args _ _ => (!c.cm && isTop c x q.1.1) && (c.fx == some (q.1.1, q.2.1, q.2.2) && hl c args q.1.2))
    | none => false)
  | _ => false
/-- an except clause's statements -/
noncomputable def ckHv (i : Option Nat) (e : Expr) (a : Ex) : Bool := match a with
  | .cst v => (vw e).1.on (cst := fun k _ _ => eqC k v)
  | _ => false
noncomputable def ckHs (i : Option Nat) (l : List Stmt) (x : Sx) : Bool := match x with
  | .nil => l.isEmpty
  | .cons a r => (match l with
    | [] => false
    | s :: l => (match asgOf a with
      | none => false
      | some q => (vs s).1.on (asg := fun n _ e _ => isWr c n q.1 && ckHv i e q.2) && ckHs i l r))
  | _ => false
noncomputable def asOk (c : CC) (n : Option Str) (i : Option Nat) : Bool := match n, i with
  | none, none => true
  | some y, some j => isLoc c y && c.ns[j]? == some y
  | _, _ => false
noncomputable def ckPair (c : CC) (y : Str) (z : List Nat × Nat × Nat) (e : Expr) : Bool := (vw e).1.on (tup := fun es _ _ => match es with
  | [e1, e2] => (vw e1).1.on (cst := fun k _ _ => eqC k (.str z.1)) && (vw e2).1.on (att := fun o n _ => c.an[z.2.2]? == some n && (vw o).1.on (nm := fun w _ => w == y && !(w == ("__debug__" : Str))))
  | _ => false)
noncomputable def ckHa (c : CC) (y : Str) (l : List Stmt) (x : Sx) : Bool := match oneOf x with
  | none => false
  | some a => (match asgOf a with
    | none => false
    | some q => (match pairX q.2 with
      | none => false
      | some z => (match l with
        | [s] => (vs s).1.on (asg := fun v _ e _ => isWr c v q.1 && ckPair c y z e)
        | _ => false)))
noncomputable def ckHd (c : CC) (i : Option Nat) (n : Option Str) (l : List Stmt) (x : Sx) : Bool := match i with
  | none => ckHs c none l x
  | some _ => (match n with | some y => ckHa c y l x | none => false)
noncomputable def ckSTry (b : Sx) (C : Nat) (i : Option Nat) (h : Sx) (v : Vs) : Bool := v.on (tryC := fun t x _ n h₀ hs _ _ => ((c.top && !c.cm) && (isTop c x C && ktsIn c.K C "BaseException")) && (asOk c n i && (g c t b && ckHd c i n (h₀ :: hs) h)))
noncomputable def ckSs (l : List Stmt) (x : Sx) : Bool := match x with
  | .nil => l.isEmpty
  | .cons a r => (match l with | [] => false | e :: l => f c e a && g c l r)
  | _ => false
end
structure CkS where
  s : CC → Stmt → Sx → Bool
  l : CC → List Stmt → Sx → Bool
noncomputable def ckSX (h : CC → Expr → Ex → Bool) (hl : CC → List Expr → Ex → Bool) (F : CkS) (c : CC) (v : Vs) (x : Sx) : Bool := match x with
  | .expr a => ckSExpr h c a v
  | .asg i a => ckSAsg h c i a v
  | .asgA a i b => ckSAsgA h c a i b v
  | .ite t a b => ckSIte F.l h c t a b v
  | .whl t b => ckSWhl F.l h c t b v
  | .forS i rng a b => ckSFor F.l h c i rng a b v
  | .ret a => ckSRet h c a v
  | .ret0 => ckSRet0 v
  | .pass => ckSPass v
  | .brk => ckSBrk v
  | .cont => ckSCont v
  | .rse e => ckSRse c hl e v
  | .tryC b C i hd => ckSTry F.l c b C i hd v
  | _ => false
noncomputable def ckSStep (h : CC → Expr → Ex → Bool) (hl : CC → List Expr → Ex → Bool) (F : CkS) : CkS := ⟨fun c e x => ckSX h hl F c (vs e).1 x, fun c l x => ckSs F.s F.l c l x⟩
noncomputable def ckS : Nat → CkS
  | 0 => ⟨fun _ _ _ => false, fun _ _ _ => false⟩
  | n + 1 => ckSStep (ck n).e (ck n).l (ckS n)
noncomputable def Ct (c : CC) (e : Stmt) (x : Sx) : Prop := ∃ n, (ckS n).s c e x = true
noncomputable def Cts (c : CC) (l : List Stmt) (x : Sx) : Prop := ∃ n, (ckS n).l c l x = true

end Mine
namespace Mine
open PySem PySem.W PyProof.Rows PySem.Calls

theorem mapM_all2 {α β : Type} {f : α → Option β} : ∀ {l : List α} {r : List β}, l.mapM f = some r → All2 (fun a b => f a = some b) l r
  | [], r, e => by simp at e; subst e; exact .nil
  | a :: l, r, e => by
    simp only [List.mapM_cons, Option.bind_eq_bind, Option.bind_eq_some_iff, Option.pure_def, Option.some.injEq] at e
    obtain ⟨b, hb, rs, hr, rfl⟩ := e
    exact .cons hb (mapM_all2 hr)

theorem All2.flip {α β : Type} {R : α → β → Prop} {l : List α} {r : List β} (h : All2 R l r) : All2 (fun b a => R a b) r l := by
  induction h with
  | nil => exact .nil
  | cons h _ ih => exact .cons h ih

theorem pvK_sound {K : Frag} {an : List Str} {hb : Heap} {frz : Led} (X : K.In hb) : ∀ (n : Nat) {v : Value} {pv : PV}, pvK K n v = some pv → PRel an hb frz pv v := by
  intro n
  induction n with
  | zero =>
    intro v pv e
    cases v <;> simp only [pvK, Option.some.injEq, reduceCtorEq] at e
    all_goals subst e
    · exact .none
    · exact .bool _
    · exact .int _ _
    · rename_i s t; obtain ⟨c⟩ := s; have := PR.str (an := an) (hb := hb) (frz := frz) c.toList t; simpa using this
  | succ n ih =>
    intro v pv e
    cases v <;> simp only [pvK, Option.some.injEq, reduceCtorEq] at e
    · subst e; exact .none
    · subst e; exact .bool _
    · subst e; exact .int _ _
    · subst e; rename_i s t; obtain ⟨c⟩ := s; have := PR.str (an := an) (hb := hb) (frz := frz) c.toList t; simpa using this
    · rename_i a
      split at e
      · rename_i its nn sl ho
        obtain ⟨l, hl, rfl⟩ := Option.map_eq_some_iff.mp e
        have h2 := (mapM_all2 hl).flip.mono (S := fun b a => PRel an hb frz b a) fun b a q => ih q
        exact .tup (n := nn) (.inl (X _ _ ho)) rfl (by simp) (PRels.of h2)
      · cases e

section
variable {G : Gl} {Φ : Fm} {d : Nat} {own : Led} {σ : St} {s : Shared} {m : Nm} {trk frz : Led} {E : Value → Shared → Prop}

theorem VRel.bd_le {an : List Str} {hb : Heap} {ι : List Addr} {frz : Led} {v : AV} {x : Value} (h : VRel an hb ι frz v x) : v.bd ≤ ι.length := by
  cases h with
  | p _ => exact Nat.zero_le _
  | obj e => exact (List.getElem?_eq_some_iff.mp e).1
  | ins e _ => exact (List.getElem?_eq_some_iff.mp e).1

theorem s_cst {c : Const} {k : Nat} {pos : Pos} {pv : PV} (h : ∀ s : Shared, ∃ v tk, PRel G.an G.hb frz pv v ∧ ∀ (Q : Value → Shared → Prop), Q v { s with toks := tk } → wpAny (model G.prog G.w) Φ.A (eval (.Constant c k pos) Φ.env) Q E s)
    (Q : Value → Shared → Prop) (r : Re G Φ own σ s.heap m trk frz) (p : Post (VR G) G Φ own m trk frz s (.ok (.p pv) σ) Q E) : wpAny (model G.prog G.w) Φ.A (eval (.Constant c k pos) Φ.env) Q E s := by
  obtain ⟨v, tk, hr, hq⟩ := h s
  exact hq Q (p.ret r (.p hr))

theorem sx_none {k pos} : SEx G Φ (.Constant .none k pos) (fun σ => .ok (.p .none) σ) := fun own σ s m trk frz Q E r p =>
  s_cst (fun s => ⟨.none, s.toks, .none, fun _ q => Constant_none q⟩) Q r p
theorem sx_bool {b k pos} : SEx G Φ (.Constant (.bool b) k pos) (fun σ => .ok (.p (.bool b)) σ) := fun own σ s m trk frz Q E r p =>
  s_cst (fun s => ⟨.bool b, s.toks, .bool b, fun _ q => Constant_bool q⟩) Q r p
theorem sx_int {i k pos} : SEx G Φ (.Constant (.int i) k pos) (fun σ => .ok (.p (.int i)) σ) := fun own σ s m trk frz Q E r p =>
  s_cst (fun s => ⟨.int i s.toks, s.toks + 1, .int i _, fun _ q => wpAny_Constant_int q⟩) Q r p
theorem sx_str {l k pos} : SEx G Φ (.Constant (.str ⟨l.toArray⟩) k pos) (fun σ => .ok (.p (.str l)) σ) := fun own σ s m trk frz Q E r p =>
  s_cst (fun s => ⟨.str ⟨l.toArray⟩ s.toks, s.toks + 1, .str l _, fun _ q => wpAny_Constant_str q⟩) Q r p
theorem Re.trkF (r : Re G Φ own σ s.heap m trk frz) {q : Addr × Obj} (hq : q ∈ m.cel) : s.heap.get? q.1 = some q.2 :=
  (r.N q (List.mem_append_right _ (List.mem_append_right _ (List.mem_append_left _ hq)))).1
theorem name_G {A : Around} {x : Str} {pos : Pos} {v : Value} {Q : Value → Shared → Prop} (ok : FmOk G Φ d) (r : Re G Φ own σ s.heap m trk frz) (hl : Φ.env.scope.names.lookup x = some .globalImplicit) (hd : (x == ("__debug__" : Str)) = false) (hv : nsIn G.K mainGlobals x = some (some v)) (q : Q v s) :
    wpAny (model G.prog G.w) A (eval (.Name x pos) Φ.env) Q E s := by
  have T := topRead_of ok.T
  have hg : s.heap.Ns Φ.env.globals G.mg := by rw [ok.eg]; exact T.g.keeps r.F.keep
  exact Name_function_global ok.ek hl (loadGlobal_global hg (mg_of ok.X T.g hv) q) hd
theorem name_Bn {x : Str} {pos : Pos} {v : Value} {Q : Value → Shared → Prop} (ok : FmOk G Φ d) (r : Re G Φ own σ s.heap m trk frz) (hl : Φ.env.scope.names.lookup x = some .globalImplicit) (hd : (x == ("__debug__" : Str)) = false) (hv : nsIn G.K mainGlobals x = some none) (hb : bootBuiltins x = some v) (hn : x ≠ "__name__") (q : Q v s) :
    wpAny (model G.prog G.w) Φ.A (eval (.Name x pos) Φ.env) Q E s := by
  have T := topRead_of ok.T
  have hg : s.heap.Ns Φ.env.globals G.mg := by rw [ok.eg]; exact T.g.keeps r.F.keep
  have hbn : s.heap.Ns Φ.env.builtins G.mb := by rw [ok.eb]; exact T.b.keeps r.F.keep
  exact Name_function_global ok.ek hl (loadGlobal_builtin hg (mg_none_of ok.X T.g hv) hbn ((T.builtins x hn).trans hb) q) hd
noncomputable def locR (i : Nat) (σ : St) : Out AV := match σ.lo[i]? with | some o => ofO o .ok σ | none => .stuck
theorem locR_inv {i : Nat} {Q : Value → Shared → Prop} (p : Post (VR G) G Φ own m trk frz s (locR i σ) Q E) : ∃ v, σ.lo[i]? = some (some v) ∧ Post (VR G) G Φ own m trk frz s (.ok v σ) Q E := by
  unfold locR at p
  cases h : σ.lo[i]? with
  | none => rw [h] at p; exact p.elim
  | some o =>
    rw [h] at p
    cases o with
    | none => exact p.elim
    | some v => exact ⟨v, rfl, p⟩
theorem sx_loc {x pos} {i : Nat} (ok : FmOk G Φ d) (hc : Φ.cm = false) (hi : Φ.ns[i]? = some x) (hl : Φ.env.scope.names.lookup x = some .local) (hd : (x == ("__debug__" : Str)) = false) :
    SEx G Φ (.Name x pos) (fun σ => locR i σ) := by
  intro own σ s m trk frz Q E r p
  obtain ⟨v, hv, p⟩ := locR_inv p
  obtain ⟨q, v', hx', hm, hr⟩ := r.lo i v hv
  obtain ⟨e1, e2⟩ := ok.lo i x hc hi hl
  rw [e2] at hx'; cases hx'
  exact wpAny_Name (wpAny_loadName_local ok.ek hl (by rw [e1]; exact r.F.ns) hm (p.ret0 r hr)) hd

theorem sx_cel {x pos} {i : Nat} (ok : FmOk G Φ d) (hi : Φ.ns[i]? = some x) (hl : Φ.env.scope.names.lookup x = some .cell) (hd : (x == ("__debug__" : Str)) = false) :
    SEx G Φ (.Name x pos) (fun σ => locR i σ) := by
  intro own σ s m trk frz Q E r p
  obtain ⟨v, hv, p⟩ := locR_inv p
  obtain ⟨q, v', hx', hm, hr⟩ := r.lo i v hv
  obtain ⟨a, e1, e2⟩ := ok.ce i x hi hl
  rw [e2] at hx'; cases hx'
  obtain ⟨o, ho, hdt⟩ := hm
  exact wpAny_Name (wpAny_loadName_cell ok.ek hl e1 ⟨o, r.trkF ho, hdt⟩ (p.ret0 r hr)) hd

theorem sx_cvr {x pos} {j : Nat} (ok : FmOk G Φ d) (hc : Φ.cm = true) (hi : Φ.cv[j]? = some x) (hl : Φ.env.scope.names.lookup x = some .local) (hd : (x == ("__debug__" : Str)) = false) :
    SEx G Φ (.Name x pos) (fun σ => locR (Φ.ns.length + j) σ) := by
  intro own σ s m trk frz Q E r p
  obtain ⟨v, hv, p⟩ := locR_inv p
  obtain ⟨q, v', hx', hm, hr⟩ := r.lo _ v hv
  obtain ⟨e1, e2⟩ := ok.cv j x hc hi hl
  rw [e2] at hx'; cases hx'
  obtain ⟨o, mm, ho, hns, hmm⟩ := hm
  exact wpAny_Name (wpAny_loadName_local ok.ek hl (by rw [e1]; exact hns _ _ (r.trkF ho)) hmm (p.ret0 r hr)) hd

theorem sx_glob {x pos v pv} (ok : FmOk G Φ d) (hl : Φ.env.scope.names.lookup x = some .globalImplicit) (hd : (x == ("__debug__" : Str)) = false) (hv : nsIn G.K mainGlobals x = some (some v)) (hp : pvK G.K 9 v = some pv) :
    SEx G Φ (.Name x pos) (fun σ => .ok (.p pv) σ) := by
  intro own σ s m trk frz Q E r p
  exact name_G ok r hl hd hv (p.ret0 r (.p (pvK_sound ok.Kb 9 hp)))

noncomputable def SBin (G : Gl) (Φ : Fm) (op : Operator) (f : AV → AV → St → Out AV) : Prop := ∀ own σ s m trk frz Q E x y x' y', Re G Φ own σ s.heap m trk frz → VR G (trk.map (·.1)) frz x x' → VR G (trk.map (·.1)) frz y y' →
  Post (VR G) G Φ own m trk frz s (f x y σ) Q E → wpAny (model G.prog G.w) Φ.A (binaryOp op x' y') Q E s

theorem sx_bin {a b : Expr} {op : Operator} {pos : Pos} {f : AV → AV → St → Out AV} {ra rb : St → Out AV} (ha : SEx G Φ a ra) (hb : SEx G Φ b rb) (ho : SBin G Φ op f) :
    SEx G Φ (.BinOp a op b pos) (fun σ => (ra σ).bind fun x σ => (rb σ).bind fun y σ => f x y σ) := by
  intro own σ s m trk frz Q E r p
  refine wpAny_BinOp (ha own σ s m trk frz _ E r (p.bind fun x σ₁ x' h₁ tk₁ trk₁ frz₁ _ r₁ e₁ f₁ v₁ p₁ => ?_))
  refine hb own σ₁ _ m trk₁ frz₁ _ E r₁ (p₁.bind fun y σ₂ y' h₂ tk₂ trk₂ frz₂ _ r₂ e₂ f₂ v₂ p₂ => ?_)
  exact ho own σ₂ _ m trk₂ frz₂ Q E x y x' y' r₂ (v₁.mono e₂ f₂) v₂ p₂

theorem small_le {a : Int} (h : smallI a = true) : -1000000000000 < a ∧ a < 1000000000000 := by
  unfold smallI at h
  simpa using h

end
end Mine
namespace Mine
open PySem PySem.W PyProof.Rows PySem.Calls

theorem newsSub {h₀ h : Heap} {L : Addr} {l l' : Led} (N : News h₀ L h l) (k : ∀ p ∈ l', p ∈ l) : News h₀ L h l' := fun p hp => N p (k p hp)

theorem bds_le {l : List AV} {n : Nat} : bds l ≤ n ↔ ∀ v ∈ l, v.bd ≤ n := by
  induction l with
  | nil => simp [bds]
  | cons v r ih =>
    simp only [bds, List.mem_cons, forall_eq_or_imp, ← ih]
    exact Nat.max_le
theorem obds_le {l : List (Option AV)} {n : Nat} : obds l ≤ n ↔ ∀ v, some v ∈ l → v.bd ≤ n := by
  induction l with
  | nil => simp [obds]
  | cons v r ih =>
    cases v with
    | none => simp only [obds, List.mem_cons, reduceCtorEq, false_or]; exact ih
    | some v =>
      simp only [obds, List.mem_cons, Option.some.injEq]
      refine Nat.max_le.trans ?_
      rw [ih]
      constructor
      · rintro ⟨a, b⟩ w (rfl | hw)
        · exact a
        · exact b w hw
      · exact fun h => ⟨h v (.inl rfl), fun w hw => h w (.inr hw)⟩

theorem VRel.take {an : List Str} {hb : Heap} {ι : List Addr} {frz : Led} {v : AV} {x : Value} {n : Nat} (h : VRel an hb ι frz v x) (hn : v.bd ≤ n) : VRel an hb (ι.take n) frz v x := by
  cases h with
  | p h => exact .p h
  | obj e => exact .obj (by rw [List.getElem?_take_of_lt hn]; exact e)
  | ins e m => exact .ins (by rw [List.getElem?_take_of_lt hn]; exact e) m
theorem all2_mono_mem {α β : Type} {R S : α → β → Prop} {l : List α} {r : List β} (h : All2 R l r) (k : ∀ a ∈ l, ∀ b, R a b → S a b) : All2 S l r := by
  induction h with
  | nil => exact .nil
  | cons h _ ih => exact .cons (k _ (.head _) _ h) (ih fun a ha => k a (.tail _ ha))
theorem ORel.take {an : List Str} {P : Params} {hb : Heap} {ι : List Addr} {frz : Led} {v : AO} {x : Obj} {n : Nat} (h : ORel an P hb ι frz v x) (hn : v.bd ≤ n) : ORel an P hb (ι.take n) frz v x := by
  cases h with
  | lst h => exact .lst (all2_mono_mem h fun a ha b q => q.take (bds_le.mp hn a ha))
  | fld h => exact .fld (all2_mono_mem h fun a ha b q => ⟨q.1, q.2.take (bds_le.mp hn a.2 (List.mem_map_of_mem ha))⟩)

section
variable {G : Gl} {Φ : Fm} {d : Nat} {own : Led} {σ : St} {h h' : Heap} {m : Nm} {trk frz : Led}

theorem Re.len (r : Re G Φ own σ h m trk frz) : σ.hp.length = trk.length := r.hp.length

theorem nodup_mid {α : Type} {a : α} {l r : List α} (h : (l ++ r).Nodup) (ha : a ∉ l ++ r) : ((l ++ [a]) ++ r).Nodup := by
  have : ((l ++ [a]) ++ r).Perm (a :: (l ++ r)) := by
    rw [List.append_assoc]
    exact List.perm_middle
  exact this.nodup_iff.mpr (List.nodup_cons.mpr ⟨ha, h⟩)

theorem Re.pushT' {l : Addr} {o : Obj} {ao : AO} (r : Re G Φ own σ h m trk frz) (F : Fr Φ.h₀ Φ.L h' m.fn) (N : News Φ.h₀ Φ.L h' ((l, o) :: (trk ++ (frz ++ (m.cel ++ own))))) (hl : ∀ p ∈ trk ++ (frz ++ (m.cel ++ own)), p.1 ≠ l)
    (hv : ORel G.an G.w.params G.hb (trk.map (·.1)) frz ao o) (hb : ao.bd ≤ σ.hp.length) : Re G Φ own { σ with hp := σ.hp ++ [ao] } h' m (trk ++ [(l, o)]) frz := by
  have hι : trk.map (·.1) <+: (trk ++ [(l, o)]).map (·.1) := ⟨[l], by simp⟩
  refine ⟨F, newsSub N fun p hp => ?_, ?_, ?_, fun k a e => ?_, ?_, fun i v e => ?_, r.ca⟩
  · simp only [List.append_assoc, List.mem_append, List.mem_cons, List.not_mem_nil, or_false] at hp ⊢
    rcases hp with hp | hp | hp <;> simp [hp]
  · rw [List.append_assoc, List.map_append, List.map_append]
    have := r.nd
    rw [List.map_append] at this
    have hn := nodup_mid (a := l) this (by
      intro hm
      rw [← List.map_append] at hm
      obtain ⟨p, hp, rfl⟩ := List.mem_map.mp hm
      exact absurd rfl (hl p hp))
    simpa using hn
  · refine All2.append (r.hp.mono fun a b q => q.mono hι fun _ h => h) (All2.cons (b := (l, o)) (hv.mono hι fun _ h => h) .nil)
  · dsimp only at e ⊢
    rw [List.getElem?_append] at e
    split at e
    · exact r.bd k a e
    · rename_i hk
      have : a = ao := by
        cases q : k - σ.hp.length with
        | zero => rw [q] at e; cases e; rfl
        | succ n => rw [q] at e; cases e
      subst this
      exact Nat.le_trans hb (Nat.le_trans (Nat.le_of_not_lt hk) (Nat.le_max_left _ _))
  · have := r.hw; simp; omega
  · obtain ⟨x, v', a, b, c⟩ := r.lo i v e
    exact ⟨x, v', a, b, c.mono hι fun _ h => h⟩

theorem Re.pushT {l : Addr} {o : Obj} {ao : AO} (r : Re G Φ own σ h m trk frz) (F : Fr Φ.h₀ Φ.L h' m.fn) (N : News Φ.h₀ Φ.L h' ((l, o) :: (trk ++ (frz ++ (m.cel ++ own))))) (hl : ∀ p ∈ trk ++ (frz ++ (m.cel ++ own)), p.1 < l)
    (hv : ORel G.an G.w.params G.hb (trk.map (·.1)) frz ao o) (hb : ao.bd ≤ σ.hp.length) : Re G Φ own { σ with hp := σ.hp ++ [ao] } h' m (trk ++ [(l, o)]) frz :=
  r.pushT' F N (fun p hp => Nat.ne_of_lt (hl p hp)) hv hb

theorem Re.pushF {l : Addr} {o : Obj} (r : Re G Φ own σ h m trk frz) (F : Fr Φ.h₀ Φ.L h' m.fn) (N : News Φ.h₀ Φ.L h' ((l, o) :: (trk ++ (frz ++ (m.cel ++ own))))) (hl : ∀ p ∈ trk ++ (frz ++ (m.cel ++ own)), p.1 < l) :
    Re G Φ own σ h' m trk ((l, o) :: frz) := by
  refine ⟨F, newsSub N fun p hp => ?_, ?_, r.hp.mono fun a b q => q.mono (List.prefix_refl _) fun _ h => .tail _ h, r.bd, r.hw, fun i v e => ?_, r.ca⟩
  · simp only [List.cons_append, List.mem_append, List.mem_cons] at hp ⊢
    rcases hp with hp | hp | hp | hp <;> simp [hp]
  · have hn := r.nd
    have : ((trk ++ ((l, o) :: frz ++ (m.cel ++ own))).map (·.1)).Perm (l :: (trk ++ (frz ++ (m.cel ++ own))).map (·.1)) := by
      simp only [List.map_append, List.map_cons, List.cons_append]
      exact List.perm_middle
    refine this.nodup_iff.mpr (List.nodup_cons.mpr ⟨fun hm => ?_, hn⟩)
    obtain ⟨p, hp, e⟩ := List.mem_map.mp hm
    exact absurd (hl p hp) (e ▸ Nat.lt_irrefl _)
  · obtain ⟨x, v', a, b, c⟩ := r.lo i v e
    exact ⟨x, v', a, b, c.mono (List.prefix_refl _) fun _ h => .tail _ h⟩

theorem upd_of {D : Addr} {o o' : Obj} : ∀ {trk : Led} {i : Nat} {r : Led}, ((trk ++ r).map (·.1)).Nodup → trk[i]? = some (D, o) → Upd D o o' (trk ++ r) (trk.set i (D, o') ++ r)
  | p :: t, 0, r, nd, e => by
    cases e
    rw [List.cons_append, List.map_cons] at nd
    refine .head fun q hq hne => (List.nodup_cons.mp nd).1 ?_
    have := List.mem_map_of_mem (f := (·.1)) hq
    rw [hne] at this; exact this
  | p :: t, i + 1, r, nd, e => by
    rw [List.cons_append, List.map_cons] at nd
    have hm : (D, o) ∈ t := List.mem_of_getElem? e
    refine .tail (fun hne => (List.nodup_cons.mp nd).1 ?_) (upd_of (List.nodup_cons.mp nd).2 e)
    rw [hne]
    exact List.mem_map_of_mem (f := (·.1)) (List.mem_append_left _ hm)

theorem set_keys {D : Addr} {o o' : Obj} {trk : Led} {i : Nat} (e : trk[i]? = some (D, o)) : (trk.set i (D, o')).map (·.1) = trk.map (·.1) := by
  rw [List.map_set]
  have : (trk.map (·.1))[i]? = some D := by rw [List.getElem?_map, e]; rfl
  apply List.ext_getElem?
  intro j
  rw [List.getElem?_set]
  split
  · rename_i q; subst q; split
    · exact this.symm
    · rename_i q; rw [List.getElem?_eq_none (Nat.le_of_not_lt q)] at this; cases this
  · rfl

theorem Re.setT {D : Addr} {o o' : Obj} {ao : AO} {i hw' : Nat} (r : Re G Φ own σ h m trk frz) (e : trk[i]? = some (D, o)) (F : Fr Φ.h₀ Φ.L h' m.fn) (N : News Φ.h₀ Φ.L h' (trk.set i (D, o') ++ (frz ++ (m.cel ++ own))))
    (hv : ORel G.an G.w.params G.hb (trk.map (·.1)) frz ao o') (h1 : σ.hw ≤ hw') (h2 : hw' ≤ σ.hp.length) (hb : ao.bd ≤ Nat.max i hw') : Re G Φ own { σ with hp := σ.hp.set i ao, hw := hw' } h' m (trk.set i (D, o')) frz := by
  have hk := set_keys (o' := o') e
  refine ⟨F, N, ?_, ?_, fun k a q => ?_, ?_, fun j v q => ?_, r.ca⟩
  · have := r.nd
    rw [List.map_append] at this ⊢
    rw [hk]; exact this
  · rw [hk]; exact r.hp.set hv i
  · dsimp only at q ⊢
    rw [List.getElem?_set] at q
    split at q
    · rename_i hik
      subst hik
      split at q
      · cases q; exact hb
      · cases q
    · exact Nat.le_trans (r.bd k a q) (Nat.max_le.mpr ⟨Nat.le_max_left _ _, Nat.le_trans h1 (Nat.le_max_right _ _)⟩)
  · simpa using h2
  · rw [hk]; exact r.lo j v q

theorem Re.cut {n : Nat} (r : Re G Φ own σ h m trk frz) (h2 : σ.hw ≤ n) (h3 : obds σ.lo ≤ n) : Re G Φ own { σ with hp := σ.hp.take n } h m (trk.take n) frz := by
  have hk : (trk.take n).map (·.1) = (trk.map (·.1)).take n := by rw [List.map_take]
  refine ⟨r.F, newsSub r.N fun p hp => ?_, ?_, ?_, fun k a q => ?_, ?_, fun j v q => ?_, r.ca⟩
  · rcases List.mem_append.mp hp with hp | hp
    · exact List.mem_append_left _ (List.mem_of_mem_take hp)
    · exact List.mem_append_right _ hp
  · refine List.Nodup.sublist ?_ r.nd
    exact ((List.take_sublist _ _).append (List.Sublist.refl _)).map _
  · rw [hk]
    have hb : ∀ (k : Nat) (ao : AO), (σ.hp.take n)[k]? = some ao → ao.bd ≤ n := fun k ao e => by
      rw [List.getElem?_take] at e
      split at e
      · exact Nat.le_trans (r.bd k ao e) (Nat.max_le.mpr ⟨by omega, h2⟩)
      · cases e
    refine all2_mono_mem (r.hp.take n) fun a ha b q => q.take ?_
    obtain ⟨k, hk'⟩ := List.getElem?_of_mem ha
    exact hb k a hk'
  · dsimp only at q
    rw [List.getElem?_take] at q
    split at q
    · exact r.bd k a q
    · cases q
  · have := r.hw
    simp only [List.length_take]; omega
  · obtain ⟨x, v', a, b, c⟩ := r.lo j v q
    exact ⟨x, v', a, b, hk ▸ c.take (obds_le.mp h3 v (List.mem_of_getElem? q))⟩

theorem Re.trim (r : Re G Φ own σ h m trk frz) (fb : Nat) : ∃ n, fb ≤ n ∧ Re G Φ own (trim fb σ) h m (trk.take n) frz :=
  ⟨_, Nat.le_max_left _ _, r.cut (Nat.le_trans (Nat.le_max_left _ _) (Nat.le_max_right _ _)) (Nat.le_trans (Nat.le_max_right _ _) (Nat.le_max_right _ _))⟩

theorem Re.drop {q : Addr × Obj} (r : Re G Φ (q :: own) σ h m trk frz) : Re G Φ own σ h m trk frz := by
  refine ⟨r.F, newsSub r.N fun p hp => ?_, ?_, r.hp, r.bd, r.hw, r.lo, r.ca⟩
  · simp only [List.mem_append, List.mem_cons] at hp ⊢
    rcases hp with hp | hp | hp | hp <;> simp [hp]
  · refine List.Nodup.sublist ?_ r.nd
    exact ((List.Sublist.refl _).append ((List.Sublist.refl _).append ((List.Sublist.refl _).append (List.sublist_cons_self _ _)))).map _

theorem Re.mem_own {q : Addr × Obj} (r : Re G Φ (q :: own) σ h m trk frz) : h.get? q.1 = some q.2 ∧ q.1 ≠ Φ.L ∧ Φ.h₀.get? q.1 = none :=
  r.N q (List.mem_append_right _ (List.mem_append_right _ (List.mem_append_right _ (.head _))))

theorem own_perm {q : Addr × Obj} {a b c d : Led} : ((a ++ (b ++ (c ++ q :: d))).map (·.1)).Perm (q.1 :: (a ++ (b ++ (c ++ d))).map (·.1)) := by
  simp only [List.map_append, List.map_cons]
  rw [← List.append_assoc, ← List.append_assoc, ← List.append_assoc, ← List.append_assoc]
  exact List.perm_middle

theorem Re.own_ne {q p : Addr × Obj} (r : Re G Φ (q :: own) σ h m trk frz) (hp : p ∈ trk ++ (frz ++ (m.cel ++ own))) : p.1 ≠ q.1 := by
  have hn := (List.nodup_cons.mp ((own_perm (q := q)).nodup_iff.mp r.nd)).1
  intro e
  exact hn (e ▸ List.mem_map_of_mem (f := (·.1)) hp)

theorem Re.but {q : Addr × Obj} (r : Re G Φ (q :: own) σ h m trk frz) (hs : Heap.ExtBut q.1 h h') : Re G Φ own σ h' m trk frz := by
  have hq := r.mem_own
  have d := r.drop
  refine ⟨⟨d.F.ns.extBut hs (Ne.symm hq.2.1), fun b o e => hs b o ?_ (d.F.keep b o e), d.F.above⟩, fun p hp => ⟨hs _ _ (r.own_ne hp) (d.N p hp).1, (d.N p hp).2⟩, d.nd, d.hp, d.bd, d.hw, d.lo, d.ca⟩
  intro e'
  rw [e', hq.2.2] at e
  cases e

theorem Re.reown {q : Addr × Obj} {o' : Obj} (r : Re G Φ (q :: own) σ h m trk frz) (hs : Heap.ExtBut q.1 h h') (ho : h'.get? q.1 = some o') : Re G Φ ((q.1, o') :: own) σ h' m trk frz := by
  have b := r.but hs
  have hq := r.mem_own
  refine ⟨b.F, fun p hp => ?_, ?_, b.hp, b.bd, b.hw, b.lo, b.ca⟩
  · by_cases e : p = (q.1, o')
    · subst e; exact ⟨ho, hq.2⟩
    · refine b.N p ?_
      simp only [List.mem_append, List.mem_cons] at hp ⊢
      rcases hp with hp | hp | hp | hp | hp
      · simp [hp]
      · simp [hp]
      · simp [hp]
      · exact absurd hp e
      · simp [hp]
  · have := r.nd
    simp only [List.map_append, List.map_cons] at this ⊢
    exact this

theorem Re.pushO {o : Obj} (r : Re G Φ own σ h m trk frz) (hf : o.isFreed = false := by rfl) : Re G Φ ((h.objs.size, o) :: own) σ (h.push o) m trk frz := by
  have N := r.N.push r.F o hf
  refine ⟨r.F.push o, newsSub N fun p hp => ?_, ?_, r.hp, r.bd, r.hw, r.lo, r.ca⟩
  · simp only [List.mem_append, List.mem_cons] at hp ⊢
    rcases hp with hp | hp | hp | hp | hp <;> simp [hp]
  · refine own_perm.nodup_iff.mpr (List.nodup_cons.mpr ⟨fun hm => ?_, r.nd⟩)
    obtain ⟨p, hp, e⟩ := List.mem_map.mp hm
    have := Heap.lt_size (r.N p hp).1
    exact absurd this (e ▸ Nat.lt_irrefl _)

end
end Mine
namespace Mine
open PySem PySem.W PyProof.Rows PySem.Calls

theorem okLen_le {n : Nat} (h : okLen n = true) : n < 1000000 := Nat.le_of_ble_eq_true h
theorem str_app (a b : List Nat) : (⟨a.toArray⟩ : Str) ++ ⟨b.toArray⟩ = ⟨(a ++ b).toArray⟩ := by
  show Str.mk _ = _
  congr 1
  simp
theorem str_len (a : List Nat) : (⟨a.toArray⟩ : Str).length = a.length := by simp [Str.length]
theorem rep_foldl (x : List Nat) : ∀ (n : Nat) (acc : Array Nat), (List.replicate n x.toArray).foldl (· ++ ·) acc = acc ++ (rep n x).toArray
  | 0, acc => by simp [rep]
  | n + 1, acc => by
    rw [List.replicate_succ, List.foldl_cons, rep_foldl x n, rep]
    simp [Array.append_assoc]
theorem rep_nil {α : Type} : ∀ n : Nat, rep n ([] : List α) = []
  | 0 => rfl
  | n + 1 => by rw [rep, rep_nil n]; rfl
theorem txt_mul (a : List Nat) (n : Int) : Txt.mul ⟨a.toArray⟩ n = ⟨(rep n.toNat a).toArray⟩ := by
  unfold Txt.mul
  split
  · have : n.toNat = 0 := by omega
    rw [this]; rfl
  · split
    · rename_i h
      rw [Bool.or_eq_true] at h
      rcases h with h | h
      · have : n = 1 := by simpa using h
        subst this
        simp [rep]
      · rw [str_len] at h
        have : a = [] := by cases a with | nil => rfl | cons => simp at h
        subst this
        rw [rep_nil]
    · congr 1
      have := rep_foldl a n.toNat #[]
      simpa using this
theorem reps_foldl {x : List Value} : ∀ (n : Nat) (acc : Array Value), (List.replicate n x.toArray).foldl (fun x1 x2 => x1 ++ x2) acc = acc ++ (rep n x).toArray
  | 0, acc => by simp [rep]
  | n + 1, acc => by
    rw [List.replicate_succ, List.foldl_cons, reps_foldl n, rep]
    simp [Array.append_assoc]
theorem All2.rep {α β : Type} {R : α → β → Prop} {l : List α} {r : List β} (h : All2 R l r) : ∀ n : Nat, All2 R (rep n l) (rep n r)
  | 0 => .nil
  | n + 1 => h.append (h.rep n)

theorem intOf_inv {x : AV} {i : Int} (h : intOf x = some i) : x = .p (.int i) := by
  unfold intOf at h
  split at h <;> cases h
  rfl
theorem strOf_inv {x : AV} {i : List Nat} (h : strOf x = some i) : x = .p (.str i) := by
  unfold strOf at h
  split at h <;> cases h
  rfl
theorem pOf_inv {x : AV} {v : PV} (h : pOf x = some v) : x = .p v := by
  unfold pOf at h
  split at h <;> cases h
  rfl
theorem pureL_inv {x : PV} {l : List PV} (h : pureL x = some l) : x = .lst l := by
  unfold pureL at h
  split at h <;> cases h
  rfl
theorem pureT_inv {x : PV} {l : List PV} (h : pureT x = some l) : x = .tup l := by
  unfold pureT at h
  split at h <;> cases h
  rfl
theorem lstAt_inv {x : Option AO} {l : List AV} (h : lstAt x = some l) : x = some (.lst l) := by
  unfold lstAt at h
  split at h <;> cases h
  rfl
theorem objOf_inv {σ : St} {x : AV} {l : List AV} (h : lstAt (objOf σ x) = some l) : ∃ i, x = .obj i ∧ σ.hp[i]? = some (.lst l) := by
  have h := lstAt_inv h
  unfold objOf at h
  split at h
  · exact ⟨_, rfl, h⟩
  · cases h

section
variable {G : Gl} {Φ : Fm} {d : Nat} {own : Led} {σ : St} {h h' : Heap} {m : Nm} {trk frz : Led} {s : Shared} {E : Value → Shared → Prop}

theorem Re.at (ok : FmOk G Φ d) (r : Re G Φ own σ h m trk frz) {a : Addr} {o : Obj} (e : At G.hb frz a o) : h.get? a = some o := by
  rcases e with e | e
  · exact r.F.keep a o (ok.kb a o e)
  · exact (r.N (a, o) (List.mem_append_right _ (List.mem_append_left _ e))).1
theorem Re.trkAt (r : Re G Φ own σ h m trk frz) {i : Nat} {a : Addr} {o : Obj} (e : trk[i]? = some (a, o)) : h.get? a = some o :=
  (r.N (a, o) (List.mem_append_left _ (List.mem_of_getElem? e))).1
theorem Re.obj (r : Re G Φ own σ h m trk frz) {i : Nat} {a : Addr} {ao : AO} (e : (trk.map (·.1))[i]? = some a) (q : σ.hp[i]? = some ao) : ∃ o, trk[i]? = some (a, o) ∧ ORel G.an G.w.params G.hb (trk.map (·.1)) frz ao o := by
  obtain ⟨p, hp, ho⟩ := r.hp.get q
  refine ⟨p.2, ?_, ho⟩
  rw [List.getElem?_map, hp] at e
  rw [hp]
  cases e; rfl

theorem up_all2 {l : List PV} {vs : List Value} {ι : List Addr} (h : All2 (PRel G.an G.hb frz) l vs) : All2 (VR G ι frz) (l.map .p) vs := by
  induction h with
  | nil => exact .nil
  | cons h _ ih => exact .cons (.p h) ih

theorem lst_at (ok : FmOk G Φ d) (r : Re G Φ own σ h m trk frz) {x : AV} {x' : Value} {l : List AV} (v : VR G (trk.map (·.1)) frz x x') (e : lstOf σ x = some l) :
    ∃ a vs, x' = .ref a ∧ All2 (VR G (trk.map (·.1)) frz) l vs ∧ h.IsList a vs.toArray := by
  cases v with
  | p v =>
    obtain ⟨ps, hp, rfl⟩ := Option.map_eq_some_iff.mp (show (pureL _).map _ = _ from e)
    have := pureL_inv hp
    subst this
    cases v with
    | lst ha hc hd hr => exact ⟨_, _, rfl, up_all2 hr.all2, _, r.at ok ha, hc, _, hd⟩
  | obj ha =>
    obtain ⟨o, ho, hr⟩ := r.obj ha (lstAt_inv e)
    cases hr with
    | lst hr => exact ⟨_, _, rfl, hr, _, r.trkAt ho, rfl, _, rfl⟩
  | ins _ _ => cases e

theorem itemsOf_inv {x : AV} {l : List AV} (e : itemsOf σ x = some l) : (∃ ps, x = .p (.tup ps) ∧ l = ps.map .p) ∨ ((∀ ps, x ≠ .p (.tup ps)) ∧ lstOf σ x = some l) := by
  unfold itemsOf at e
  split at e
  · cases e; exact .inl ⟨_, rfl, rfl⟩
  · rename_i h; exact .inr ⟨fun ps q => h ps q, e⟩

theorem seq_at (ok : FmOk G Φ d) (r : Re G Φ own σ h m trk frz) {x : AV} {x' : Value} {l : List AV} (v : VR G (trk.map (·.1)) frz x x') (e : itemsOf σ x = some l) :
    ∃ a vs, x' = .ref a ∧ All2 (VR G (trk.map (·.1)) frz) l vs ∧ (h.IsList a vs.toArray ∨ IsTup h a vs.toArray) := by
  rcases itemsOf_inv e with ⟨ps, rfl, rfl⟩ | ⟨_, e⟩
  · cases v with
    | p v => cases v with
      | tup ha hc hd hr => exact ⟨_, _, rfl, up_all2 hr.all2, .inr ⟨_, r.at ok ha, hc, _, hd⟩⟩
  · obtain ⟨a, vs, h1, h2, h3⟩ := lst_at ok r v e
    exact ⟨a, vs, h1, h2, .inl h3⟩

theorem bds_of {l : List AV} {vs : List Value} {ι : List Addr} {frz : Led} (h : All2 (VR G ι frz) l vs) : bds l ≤ ι.length := by
  rw [bds_le]
  intro v hv
  obtain ⟨i, hi⟩ := List.getElem?_of_mem hv
  obtain ⟨b, _, hb⟩ := h.get hi
  exact hb.bd_le

theorem newLst_post {l : List AV} {vs : List Value} {a : Addr} {Q : Value → Shared → Prop} {tk : Nat} {n : Nat} (r : Re G Φ own σ s.heap m trk frz) (hv : All2 (VR G (trk.map (·.1)) frz) l vs) (p : Post (VR G) G Φ own m trk frz s (newLst l σ) Q E)
    (F : Fr Φ.h₀ Φ.L h' m.fn) (N : News Φ.h₀ Φ.L h' ((a, listOf vs.toArray n) :: (trk ++ (frz ++ (m.cel ++ own))))) (hl : ∀ p ∈ trk ++ (frz ++ (m.cel ++ own)), p.1 < a) : Q (.ref a) { s with heap := h', toks := tk } := by
  unfold newLst at p
  split at p
  · have hb := bds_of (G := G) hv
    have r' := r.pushT F N hl (.lst hv) (by have := r.len; simp only [List.length_map] at hb; show bds l ≤ _; omega)
    refine p (.ref a) h' tk _ frz r' ⟨[a], by simp⟩ (fun _ q => q) (.obj ?_)
    rw [List.map_append, List.getElem?_append_right (by have := r.len; simp; omega)]
    have := r.len
    simp [this]
  · exact p.elim

theorem small_64 {a : Int} (h : smallI a = true) : Builtin.Int.intBits a ≤ 64 := by
  have := small_le h
  exact intBits_le_64 (by omega) (by omega)

theorem sb_add (ok : FmOk G Φ d) : SBin G Φ .Add badd := by
  intro own σ s m trk frz Q E x y x' y' r vx vy p
  unfold badd at p
  split at p
  · rename_i a ha
    split at p
    · rename_i b hb
      rw [intOf_inv ha] at vx
      rw [intOf_inv hb] at vy
      cases vx with | p vx => cases vx; cases vy with | p vy => cases vy; exact add_int (p.ret r (.p (.int _ _)))
    · exact p.elim
  · split at p
    · rename_i a ha
      split at p
      · rename_i b hb
        split at p
        · rename_i hl
          have hl := okLen_le hl
          rw [strOf_inv ha] at vx
          rw [strOf_inv hb] at vy
          cases vx with | p vx => cases vx; cases vy with | p vy =>
            cases vy
            refine PyProof.Rows.add_str (fun t' tk => p.ret r (.p ?_)) ?_
            · rw [str_app]; exact .str _ _
            · rw [str_len, str_len, sizeLine_eq]; omega
        · exact p.elim
      · exact p.elim
    · split at p
      · rename_i a b ha hb
        obtain ⟨l, vs, rfl, h1, h2⟩ := lst_at ok r vx ha
        obtain ⟨l', vs', rfl, h3, h4⟩ := lst_at ok r vy hb
        have hlen : okLen (a ++ b).length = true := by
          unfold newLst at p
          split at p
          · assumption
          · exact p.elim
        have hlen := okLen_le hlen
        refine add_arrays r.F r.N h2 h4 (fun h' F' N' => ?_) ?_
        · exact newLst_post r (h1.append h3) p F' (by simpa using N') (fun p hp => Heap.lt_size (r.N p hp).1)
        · have e1 := h1.length
          have e2 := h3.length
          simp only [List.length_append, List.size_toArray] at hlen ⊢
          rw [sizeLine_eq]; omega
      · exact p.elim
theorem sb_int {op : Operator} {f : Int → Int → Option Int} (k : ∀ a b c t u (s : Shared) (Q : Value → Shared → Prop) E, f a b = some c → Q (.int c s.toks) { s with toks := s.toks + 1 } → wpAny (model G.prog G.w) Φ.A (binaryOp op (.int a t) (.int b u)) Q E s) : SBin G Φ op (int2 f) := by
  intro own σ s m trk frz Q E x y x' y' r vx vy p
  unfold int2 at p
  split at p
  · rename_i a b ha hb
    split at p
    · rename_i c hc
      rw [intOf_inv ha] at vx
      rw [intOf_inv hb] at vy
      cases vx with | p vx => cases vx; cases vy with | p vy => cases vy; exact k _ _ _ _ _ _ _ _ hc (p.ret r (.p (.int _ _)))
    · exact p.elim
  · exact p.elim
theorem sb_sub : SBin G Φ .Sub (int2 fun a b => some (a - b)) := sb_int fun a b c t u s Q E e q => by cases e; exact sub_int q
theorem sb_mod : SBin G Φ .Mod (int2 fun a b => match decide (b = 0) with | true => none | false => some (Int.fmod a b)) := sb_int fun a b c t u s Q E e q => by
  split at e
  · cases e
  · rename_i hz; cases e; exact mod_int' (by simpa using hz) q
theorem sb_fdiv : SBin G Φ .FloorDiv (int2 fun a b => match decide (0 < b) && decide (b < 1000000000) with | true => some (Int.fdiv a b) | false => none) := sb_int fun a b c t u s Q E e q => by
  split at e
  · rename_i hz
    simp only [Bool.and_eq_true, decide_eq_true_eq] at hz
    cases e; exact floordiv_int (by omega) q (.inl (PyProof.noPylong_small (by omega)))
  · cases e
theorem sb_mul (ok : FmOk G Φ d) : SBin G Φ .Mult bmul := by
  intro own σ s m trk frz Q E x y x' y' r vx vy p
  unfold bmul at p
  split at p
  · exact p.elim
  · rename_i n hn
    rw [intOf_inv hn] at vy
    cases vy with | p vy =>
    cases vy with | int _ tn =>
    split at p
    · rename_i a ha
      split at p <;> first | exact p.elim | skip
      rename_i hz
      rw [Bool.and_eq_true] at hz
      rw [intOf_inv ha] at vx
      cases vx with | p vx => cases vx; exact mul_int (p.ret r (.p (.int _ _))) (.of_left (small_64 hz.1))
    · split at p
      · rename_i a ha
        split at p <;> first | exact p.elim | skip
        rename_i hz
        simp only [Bool.and_eq_true] at hz
        have h1 := small_le hz.1.1
        have h2 := okLen_le hz.1.2
        have h3 := okLen_le hz.2
        rw [strOf_inv ha] at vx
        cases vx with | p vx =>
          cases vx
          refine SB.mul ?_ (fun t' tk => ?_)
          · refine mulOk_of a.length n.toNat (by rw [str_len]; exact Nat.le_refl _) (by omega) (by omega) (by omega) (by omega)
          · rw [txt_mul]; exact p.ret r (.p (.str _ _))
      · split at p
        · rename_i l hl
          obtain ⟨i, rfl, hl2⟩ := objOf_inv hl
          split at p <;> first | exact p.elim | skip
          rename_i hz
          rw [Bool.and_eq_true] at hz
          have h1 := small_le hz.1
          have h3 := okLen_le hz.2
          cases vx with | obj ha =>
            obtain ⟨o, ho, hr⟩ := r.obj ha hl2
            cases hr with
            | lst hr =>
              rename_i vs n'
              refine mul_list r.F r.N (r.trkAt ho) (by omega) (by omega) ?_ (fun h' F' N' => ?_)
              · rw [List.size_toArray, ← hr.length]; omega
              · refine newLst_post (n := 0) r (hr.rep _) p F' ?_ (fun p hp => Heap.lt_size (r.N p hp).1)
                have e : ∀ k : Nat, List.foldl (fun x1 x2 => x1 ++ x2) #[] (List.replicate (if vs.toArray.isEmpty = true then 0 else k) vs.toArray) = (rep k vs).toArray := by
                  intro k
                  split
                  · rename_i hz
                    have : vs = [] := by simpa using hz
                    subst this
                    rw [rep_nil]; rfl
                  · rw [reps_foldl]; simp
                rw [e] at N'
                exact N'
        · exact p.elim
end
end Mine
namespace Mine
open PySem PySem.W PyProof.Rows PySem.Calls PySem.SeqAt

theorem at_nil {h : Heap} {a : Addr} {o : Obj} (e : At h [] a o) : h.get? a = some o := e.elim id fun h => nomatch h
theorem at_same {h : Heap} {a : Addr} {o o' : Obj} (e : At h [] a o) (e' : At h [] a o') : o = o' := Option.some.inj ((at_nil e).symm.trans (at_nil e'))
theorem seq_same {o : Obj} {vs vs' : List Value} {n n' : Nat} (h : o.data = .seq vs.toArray n) (h' : o.data = .seq vs'.toArray n') : vs = vs' := by
  rw [h] at h'
  have := congrArg (fun v => match v with | Data.seq s _ => s.toList | _ => []) h'
  simpa using this
theorem str_same {l l' : List Nat} (h : (⟨l.toArray⟩ : Str) = ⟨l'.toArray⟩) : l = l' := by
  have := congrArg (fun v => v.cps.toList) h
  simpa using this

theorem nd_inj {α : Type} : ∀ {l : List α} {i j : Nat} {x : α}, l.Nodup → l[i]? = some x → l[j]? = some x → i = j
  | [], _, _, _, _, h, _ => by simp at h
  | a :: l, 0, 0, _, _, _, _ => rfl
  | a :: l, 0, j + 1, x, nd, h, k => by
    cases h
    exact absurd (List.mem_of_getElem? (i := j) (by simpa using k)) (List.nodup_cons.mp nd).1
  | a :: l, i + 1, 0, x, nd, h, k => by
    cases k
    exact absurd (List.mem_of_getElem? (i := i) (by simpa using h)) (List.nodup_cons.mp nd).1
  | a :: l, i + 1, j + 1, x, nd, h, k => by
    rw [nd_inj (i := i) (j := j) (List.nodup_cons.mp nd).2 (by simpa using h) (by simpa using k)]

/-- a value stands for one pure value at most -/
theorem PR.func {an : List Str} {h : Heap} (hn : an.Nodup) {v : PQ} {x : VQ} (p : PR an h [] v x) : ∀ {v' : PQ}, PR an h [] v' x → v = v' := by
  induction p with
  | none => intro v' p'; cases p'; rfl
  | bool b => intro v' p'; cases p'; rfl
  | int i t => intro v' p'; cases p'; rfl
  | str l t =>
    intro v' p'
    generalize hx : VQ.one (.str ⟨l.toArray⟩ t) = x at p'
    cases p' with
    | str l' t' =>
      have hx : Value.str ⟨l.toArray⟩ t = .str ⟨l'.toArray⟩ t' := congrArg (fun q => match q with | VQ.one v => v | _ => .none) hx
      rw [str_same (Value.str.inj hx).1]
    | _ => cases hx
  | tup a b c d ih =>
    intro v' p'
    cases p' with
    | tup a' b' c' d' =>
      cases at_same a a'
      cases seq_same c c'
      cases ih d'
      rfl
    | lst a' b' c' d' =>
      cases at_same a a'
      rw [b] at b'; exact absurd (Value.type.inj b') (by decide)
  | lst a b c d ih =>
    intro v' p'
    cases p' with
    | lst a' b' c' d' =>
      cases at_same a a'
      cases seq_same c c'
      cases ih d'
      rfl
    | tup a' b' c' d' =>
      cases at_same a a'
      rw [b] at b'; exact absurd (Value.type.inj b') (by decide)
  | nil => intro v' p'; cases p'; rfl
  | cons a b h1 h2 =>
    intro v' p'
    cases p' with
    | cons a' b' => cases h1 a'; cases h2 b'; rfl

theorem eqL_eq : ∀ (a b : List Nat), eqL a b = decide (a = b)
  | [], [] => rfl
  | [], _ :: _ => rfl
  | _ :: _, [] => rfl
  | a :: r, b :: t => by
    unfold eqL
    cases h : Nat.beq a b with
    | true =>
      have := Nat.eq_of_beq_eq_true h
      subst this
      dsimp only
      rw [eqL_eq r t]
      simp
    | false =>
      have : a ≠ b := Nat.ne_of_beq_eq_false h
      simp [this, h]

section
variable {A : Around} {s : Shared}
theorem eqAt_of {x x' : Value} {b : Bool} (hf : ∀ b t, x ≠ .float b t) (h1 : x = x' → b = true) (h : RcAt A s x x' b) : EqAt A s x x' b := fun prog w E Q hq => by
  unfold eqBool
  refine wpAny_holding ?_
  refine wpAny_ite_split (fun hab => ?_) (fun _ => ?_)
  · rw [h1 (eq_of_beq hab)] at hq
    exact wpAny_bind (wpAny_rule (wpAny_pure hq))
  · cases x <;> first | exact absurd rfl (hf _ _) | exact wpAny_bind (h prog w E _ (wpAny_truthy_bool hq))
end

/-- the first so many -/
theorem peqs_min {f : PV → PV → Option Bool} : ∀ {a b : List PV} {r : Bool}, peqs f a b = some r → ∃ e : Nat → Bool, (∀ (j : Nat) x y, a[j]? = some x → b[j]? = some y → f x y = some (e j)) ∧ r = ((List.range (min a.length b.length)).all e && a.length == b.length)
  | [], [], r, h => ⟨fun _ => true, fun j x y q => (by simp at q), by cases h; rfl⟩
  | x :: a, y :: b, r, h => by
    unfold peqs at h
    dsimp only at h
    split at h
    · cases h
    · rename_i u hu
      split at h
      · rename_i t ht
        cases h
        obtain ⟨e, he, rfl⟩ := peqs_min ht
        refine ⟨fun j => match j with | 0 => u | j + 1 => e j, fun j x' y' q q' => ?_, ?_⟩
        · cases j with
          | zero => cases q; cases q'; exact hu
          | succ j => exact he j x' y' q q'
        · rw [List.length_cons, List.length_cons, Nat.add_min_add_right, List.range_succ_eq_map, List.all_cons, List.all_map, Bool.and_assoc]
          congr 2
          by_cases q : a.length = b.length <;> simp [q]
      · cases h
  | [], y :: b, r, h => ⟨fun _ => true, fun j x y q => (by simp at q), by cases h; simp⟩
  | x :: a, [], r, h => ⟨fun _ => true, fun j x y q q' => (by simp at q'), by cases h; simp⟩

theorem PR.get {an : List Str} {hb : Heap} {frz : Led} {l : List PV} {r : List Value} (h : PRels an hb frz l r) {j : Nat} {y : Value} (e : r[j]? = some y) : ∃ v, l[j]? = some v ∧ PRel an hb frz v y := by
  obtain ⟨v, a, b⟩ := h.all2.flip.get e
  exact ⟨v, a, b⟩

theorem peqs_refl {f : PV → PV → Option Bool} (hf : ∀ v b, f v v = some b → b = true) {l : List PV} {b : Bool} (h : peqs f l l = some b) : b = true := by
  obtain ⟨e, he, rfl⟩ := peqs_min h
  rw [Nat.min_self, beq_self_eq_true, Bool.and_true, List.all_eq_true]
  intro j hj
  have hj := List.mem_range.mp hj
  exact hf _ _ (he j _ _ (List.getElem?_eq_getElem hj) (List.getElem?_eq_getElem hj))
theorem peq_refl : ∀ (n : Nat) (v : PV) (b : Bool), peq n v v = some b → b = true
  | 0, _, _, e => by cases e
  | n + 1, v, b, e => by
    cases v with
    | none => cases e; rfl
    | bool c => cases e; simp
    | int i => cases e; simp
    | str l => cases e; rw [eqL_eq]; simp
    | tup l => exact peqs_refl (peq_refl n) e
    | lst l =>
      have e : (match Nat.beq l.length l.length with | true => peqs (peq n) l l | false => some false) = some b := e
      rw [Nat.beq_refl] at e
      exact peqs_refl (peq_refl n) e
theorem PR.nofloat {an : List Str} {hb : Heap} {frz : Led} {v : PV} {x : Value} (p : PRel an hb frz v x) : ∀ b t, x ≠ .float b t := by
  cases p <;> (intro _ _ e; cases e)
theorem str_beq (a b : List Nat) : ((⟨a.toArray⟩ : Str) == ⟨b.toArray⟩) = eqL a b := by
  rw [eqL_eq]
  by_cases h : a = b
  · subst h; simp
  · have : (⟨a.toArray⟩ : Str) ≠ ⟨b.toArray⟩ := fun e => h (str_same e)
    simp [h, this]
end Mine
namespace Mine
open PySem PySem.W PyProof.Rows PySem.Calls PySem.SeqAt

noncomputable def Rc2 (A : Around) (s : Shared) (x x' : Value) (b : Bool) : Prop := RcAt A s x x' b ∧ RcNeAt A s x x' (!b)
section
variable {an : List Str}
theorem PR.isTup {h : Heap} {l : List PV} {x : Value} (p : PRel an h [] (.tup l) x) : ∃ a vs, x = .ref a ∧ IsTup h a vs.toArray ∧ PRels an h [] l vs := by
  cases p with | tup a c d q => exact ⟨_, _, rfl, ⟨_, at_nil a, c, _, d⟩, q⟩
theorem PR.isLst {h : Heap} {l : List PV} {x : Value} (p : PRel an h [] (.lst l) x) : ∃ a vs, x = .ref a ∧ h.IsList a vs.toArray ∧ PRels an h [] l vs := by
  cases p with | lst a c d q => exact ⟨_, _, rfl, ⟨_, at_nil a, c, _, d⟩, q⟩

/-- what == and != give -/
theorem peq_both (hn : an.Nodup) : ∀ (n : Nat) {A : Around} {s : Shared} {v v' : PV} {x x' : Value} {b : Bool}, PRel an s.heap [] v x → PRel an s.heap [] v' x' → peq n v v' = some b → A.units + n < cLine → Rc2 A s x x' b
  | 0, _, _, _, _, _, _, _, _, _, e, _ => by cases e
  | n + 1, A, s, v, v', x, x', b, p, p', e, hu => by
    have hu' : A.units < cLine := by omega
    have sub : ∀ {vs vs' : List Value} {l l' : List PV} {e' : Nat → Bool}, PRels an s.heap [] l vs → PRels an s.heap [] l' vs' → (∀ (j : Nat) x y, l[j]? = some x → l'[j]? = some y → peq n x y = some (e' j)) →
        ∀ j (h1 : j < vs.toArray.size) (h2 : j < vs'.toArray.size), EqAt A.in1 s vs.toArray[j] vs'.toArray[j] (e' j) := by
      intro vs vs' l l' e' q q' he j h1 h2
      simp only [List.size_toArray] at h1 h2
      obtain ⟨w, hw, hr⟩ := q.get (List.getElem?_eq_getElem h1)
      obtain ⟨w', hw', hr'⟩ := q'.get (List.getElem?_eq_getElem h2)
      have hp := he j w w' hw hw'
      simp only [List.getElem_toArray]
      refine eqAt_of hr.nofloat (fun hx => ?_) (peq_both hn n hr hr' hp (by show A.units + 1 + n < _; omega)).1
      rw [← hx] at hr'
      cases PR.func hn hr hr'
      exact peq_refl n _ _ hp
    cases v with
    | none =>
      cases p
      cases v' with
      | none => cases p'; cases e; exact ⟨RcAt.none_none, RcNeAt.none_none⟩
      | bool => cases p'; cases e; exact ⟨RcAt.none_bool _, RcNeAt.none_bool _⟩
      | int => cases p'; cases e; exact ⟨RcAt.none_int _ _, RcNeAt.none_int _ _⟩
      | str => cases p'; cases e; exact ⟨RcAt.none_str _ _, RcNeAt.none_str _ _⟩
      | tup => obtain ⟨a, vs, rfl, t, _⟩ := p'.isTup; cases e; exact ⟨RcAt.none_tuple t hu', RcNeAt.none_tuple t hu'⟩
      | lst => obtain ⟨a, vs, rfl, t, _⟩ := p'.isLst; cases e; exact ⟨RcAt.none_list t hu', RcNeAt.none_list t hu'⟩
    | bool c =>
      cases p
      cases v' with
      | none => cases p'; cases e; exact ⟨RcAt.bool_none _, RcNeAt.bool_none _⟩
      | bool => cases p'; cases e; exact ⟨RcAt.bool_bool _ _, RcNeAt.bool_bool _ _⟩
      | str => cases p'; cases e; exact ⟨RcAt.bool_str _ _ _, RcNeAt.bool_str _ _ _⟩
      | _ => cases e
    | int i =>
      cases p
      cases v' with
      | none => cases p'; cases e; exact ⟨RcAt.int_none _ _, RcNeAt.int_none _ _⟩
      | int => cases p'; cases e; exact ⟨RcAt.int_int _ _ _ _, RcNeAt.int_int _ _ _ _⟩
      | str => cases p'; cases e; exact ⟨RcAt.int_str _ _ _ _, RcNeAt.int_str _ _ _ _⟩
      | _ => cases e
    | str l =>
      cases p
      cases v' with
      | none => cases p'; cases e; exact ⟨RcAt.str_none _ _, RcNeAt.str_none _ _⟩
      | bool => cases p'; cases e; exact ⟨RcAt.str_bool _ _ _, RcNeAt.str_bool _ _ _⟩
      | int => cases p'; cases e; exact ⟨RcAt.str_int _ _ _ _, RcNeAt.str_int _ _ _ _⟩
      | str => cases p'; cases e; rw [← str_beq]; exact ⟨RcAt.str_str _ _ _ _, RcNeAt.str_str _ _ _ _⟩
      | tup => obtain ⟨a, vs, rfl, t, _⟩ := p'.isTup; cases e; exact ⟨RcAt.str_tuple _ _ t hu', RcNeAt.str_tuple _ _ t hu'⟩
      | _ => cases e
    | tup l =>
      obtain ⟨a, vs, rfl, t, q⟩ := p.isTup
      cases v' with
      | none => cases p'; cases e; exact ⟨RcAt.tuple_none t hu', RcNeAt.tuple_none t hu'⟩
      | str => cases p'; cases e; exact ⟨RcAt.tuple_str _ _ t hu', RcNeAt.tuple_str _ _ t hu'⟩
      | tup =>
        obtain ⟨a', vs', rfl, t', q'⟩ := p'.isTup
        obtain ⟨e', he', rfl⟩ := peqs_min e
        have h1 := RcAt.tuples t t' hu' (sub q q' he')
        have h2 := RcNeAt.tuples t t' hu' (sub q q' he')
        simp only [List.size_toArray, ← q.all2.length, ← q'.all2.length] at h1 h2
        exact ⟨h1, h2⟩
      | _ => cases e
    | lst l =>
      obtain ⟨a, vs, rfl, t, q⟩ := p.isLst
      cases v' with
      | none => cases p'; cases e; exact ⟨RcAt.list_none t hu', RcNeAt.list_none t hu'⟩
      | lst l' =>
        obtain ⟨a', vs', rfl, t', q'⟩ := p'.isLst
        have e1 := q.all2.length
        have e2 := q'.all2.length
        have e : (match Nat.beq l.length l'.length with | true => peqs (peq n) l l' | false => some false) = some b := e
        split at e
        · rename_i hl
          have hl := Nat.eq_of_beq_eq_true hl
          obtain ⟨e', he', rfl⟩ := peqs_min e
          have h1 := RcAt.lists t t' (by simp only [List.size_toArray]; omega) hu' (sub q q' he')
          have h2 := RcNeAt.lists t t' (by simp only [List.size_toArray]; omega) hu' (sub q q' he')
          simp only [List.size_toArray, ← e1] at h1 h2
          rw [← hl, Nat.min_self, beq_self_eq_true, Bool.and_true]
          exact ⟨h1, h2⟩
        · rename_i hl
          have hl := Nat.ne_of_beq_eq_false hl
          cases e
          have hs : ∀ vs vs' : List Value, vs.length ≠ vs'.length → (vs.toArray.size != vs'.toArray.size) = true := fun vs vs' h => by simpa using h
          exact ⟨RcAt.lists_lengths t t' (hs _ _ (by omega)) hu', RcNeAt.lists_lengths t t' (hs _ _ (by omega)) hu'⟩
      | _ => cases e
end

section
variable {G : Gl} {Φ : Fm} {d : Nat} {own : Led} {σ : St} {h h' : Heap} {m : Nm} {trk frz : Led} {s : Shared} {E : Value → Shared → Prop}

theorem snapL_all2 {f : AV → Option PV} : ∀ {l : List AV} {r : List PV}, snapL f l = some r → All2 (fun a b => f a = some b) l r
  | [], r, e => by cases e; exact .nil
  | a :: l, r, e => by
    unfold snapL at e
    split at e
    · cases e
    · rename_i x hx
      split at e
      · rename_i t ht; cases e; exact .cons hx (snapL_all2 ht)
      · cases e

theorem snap_at (ok : FmOk G Φ d) (r : Re G Φ own σ h m trk frz) : ∀ (n : Nat) {x : AV} {x' : Value} {v : PV}, VR G (trk.map (·.1)) frz x x' → snap σ n x = some v → PRel G.an h [] v x' := by
  have base : ∀ {x : AV} {x' : Value} {v : PV}, VR G (trk.map (·.1)) frz x x' → pOf x = some v → PRel G.an h [] v x' := by
    intro x x' v vx e
    rw [pOf_inv e] at vx
    cases vx with | p q => exact q.map fun a o k => .inl (r.at ok k)
  intro n
  induction n with
  | zero => exact base
  | succ n ih =>
    intro x x' v vx e
    unfold snap at e
    split at e
    · rename_i hx; cases e; exact base vx hx
    · split at e
      · rename_i l q
        split at e
        · rename_i l' hl
          cases e
          obtain ⟨i, rfl, hi⟩ := objOf_inv q
          cases vx with | obj ha =>
            obtain ⟨o, ho, hr⟩ := r.obj ha hi
            cases hr with
            | lst hr =>
              refine .lst (.inl (r.trkAt ho)) rfl rfl (PRels.of ?_)
              have h2 := snapL_all2 hl
              clear hl hi q ho
              induction hr generalizing l' with
              | nil => cases h2; exact .nil
              | cons hv _ ih' =>
                cases h2 with
                | cons hx h2 => exact .cons (ih hv hx) (ih' _ h2)
        · cases e
      · cases e

noncomputable def SCmp (G : Gl) (Φ : Fm) (op : CmpOp) (f : AV → AV → St → Option Bool) : Prop := ∀ own σ s m trk frz x y x' y' b Q E, Re G Φ own σ s.heap m trk frz → VR G (trk.map (·.1)) frz x x' → VR G (trk.map (·.1)) frz y y' → f x y σ = some b → (∀ tk, Q (.bool b) { s with toks := tk }) → wpAny (model G.prog G.w) Φ.A (compareOp op x' y') Q E s

theorem units_A (ok : FmOk G Φ d) : Φ.A.units + 20 < cLine := by
  have := ok.un
  show Φ.A₀.units + 3 + 20 < cLine
  omega
theorem notB_inv {o : Option Bool} {b : Bool} (h : notB o = some b) : o = some (!b) := by
  unfold notB at h
  split at h <;> cases h
  simp
theorem ceq_inv (ok : FmOk G Φ d) (r : Re G Φ own σ s.heap m trk frz) {x y : AV} {x' y' : Value} {b : Bool} (vx : VR G (trk.map (·.1)) frz x x') (vy : VR G (trk.map (·.1)) frz y y') (e : ceq x y σ = some b) : Rc2 Φ.A s x' y' b := by
  unfold ceq at e
  split at e
  · rename_i u v h1 h2
    have := units_A ok
    exact peq_both ok.na 12 (snap_at ok r 6 vx h1) (snap_at ok r 6 vy h2) e (by omega)
  · cases e
theorem sc_eq (ok : FmOk G Φ d) : SCmp G Φ .Eq ceq := fun own σ s m trk frz x y x' y' b Q E r vx vy e q => (ceq_inv ok r vx vy e).1 _ _ _ _ (q s.toks)
theorem sc_ne (ok : FmOk G Φ d) : SCmp G Φ .NotEq (fun x y σ => notB (ceq x y σ)) := fun own σ s m trk frz x y x' y' b Q E r vx vy e q => by
  have := (ceq_inv ok r vx vy (notB_inv e)).2 G.prog G.w E Q
  rw [Bool.not_not] at this
  exact this (q s.toks)
theorem sc_int {op : CmpOp} {f : Int → Int → Bool} (k : ∀ a b t u (s : Shared) (Q : Value → Shared → Prop) E, Q (.bool (f a b)) s → wpAny (model G.prog G.w) Φ.A (compareOp op (.int a t) (.int b u)) Q E s) : SCmp G Φ op (fun x y _ => cmpI f x y) := by
  intro own σ s m trk frz x y x' y' b Q E r vx vy e q
  have e : cmpI f x y = some b := e
  unfold cmpI at e
  split at e
  · rename_i a c ha hc
    cases e
    rw [intOf_inv ha] at vx
    rw [intOf_inv hc] at vy
    cases vx with | p vx => cases vx; cases vy with | p vy => cases vy; exact k _ _ _ _ _ _ _ (q s.toks)
  · cases e
theorem sc_lt : SCmp G Φ .Lt (fun x y _ => cmpI (fun a b => decide (a < b)) x y) := sc_int fun a b t u s Q E q => lt_int q
theorem sc_le : SCmp G Φ .LtE (fun x y _ => cmpI (fun a b => decide (a ≤ b)) x y) := sc_int fun a b t u s Q E q => le_int q
theorem sc_gt : SCmp G Φ .Gt (fun x y _ => cmpI (fun a b => decide (a > b)) x y) := sc_int fun a b t u s Q E q => gt_int q
theorem sc_ge : SCmp G Φ .GtE (fun x y _ => cmpI (fun a b => decide (a ≥ b)) x y) := sc_int fun a b t u s Q E q => ge_int q
end
end Mine
namespace Mine
open PySem PySem.W PyProof.Rows PySem.Calls PySem.SeqAt

section
variable {G : Gl} {Φ : Fm} {d : Nat} {own : Led} {σ : St} {h h' : Heap} {m : Nm} {trk frz : Led} {s : Shared} {E : Value → Shared → Prop}
theorem EqAt.same {A : Around} {x : Value} : EqAt A s x x true := fun prog w E Q hq => by
  unfold eqBool
  refine wpAny_holding (wpAny_ite_split (fun _ => wpAny_bind (wpAny_rule (wpAny_pure hq))) fun h => absurd (by simp) h)
theorem aeqs_get {f : AV → AV → Option Bool} : ∀ {a b : List AV} {r : Bool}, aeqs f a b = some r → a.length = b.length → ∃ e : Nat → Bool, (∀ (j : Nat) x y, a[j]? = some x → b[j]? = some y → f x y = some (e j)) ∧ r = (List.range a.length).all e
  | [], [], r, h, _ => ⟨fun _ => true, fun j x y q => (by simp at q), by cases h; rfl⟩
  | [], _ :: _, r, h, hl => by cases hl
  | _ :: _, [], r, h, hl => by cases hl
  | x :: a, y :: b, r, h, hl => by
    unfold aeqs at h
    dsimp only at h
    split at h
    · cases h
    · rename_i u hu
      split at h
      · rename_i t ht
        cases h
        obtain ⟨e, he, rfl⟩ := aeqs_get ht (Nat.succ.inj hl)
        refine ⟨fun j => match j with | 0 => u | j + 1 => e j, fun j x' y' q q' => ?_, ?_⟩
        · cases j with
          | zero => cases q; cases q'; exact hu
          | succ j => exact he j x' y' q q'
        · rw [List.length_cons, List.range_succ_eq_map, List.all_cons, List.all_map]
          rfl
      · cases h
theorem sameI_inv {a b : AV} (h : sameI a b = true) : ∃ C i, a = .ins C i ∧ b = .ins C i := by
  unfold sameI at h
  split at h
  · rw [Bool.and_eq_true] at h
    rw [Nat.eq_of_beq_eq_true h.1, Nat.eq_of_beq_eq_true h.2]
    exact ⟨_, _, rfl, rfl⟩
  · cases h
theorem differ_inv {a b : AV} (h : differ a b = true) : ∃ i j, a = .obj i ∧ b = .obj j ∧ i ≠ j := by
  unfold differ at h
  split at h
  · exact ⟨_, _, rfl, rfl, Nat.ne_of_beq_eq_false (by simpa using h)⟩
  · cases h
theorem aeqL_at (ok : FmOk G Φ d) (r : Re G Φ own σ s.heap m trk frz) {A : Around} {f : AV → AV → Option Bool} {x y : AV} {x' y' : Value} {b : Bool} (hu : A.units < cLine) (vx : VR G (trk.map (·.1)) frz x x') (vy : VR G (trk.map (·.1)) frz y y') (e : aeqL f σ x y = some b)
    (hf : ∀ x y x' y' b, VR G (trk.map (·.1)) frz x x' → VR G (trk.map (·.1)) frz y y' → f x y = some b → EqAt A.in1 s x' y' b) : RcAt A s x' y' b := by
  unfold aeqL at e
  split at e
  · rename_i l l' hl hl'
    obtain ⟨i, rfl, hi⟩ := objOf_inv hl
    obtain ⟨j, rfl, hj⟩ := objOf_inv hl'
    cases vx with | obj a1 => cases vy with | obj a2 =>
      obtain ⟨o, ho, hr⟩ := r.obj a1 hi
      obtain ⟨o', ho', hr'⟩ := r.obj a2 hj
      cases hr with | lst hr => cases hr' with | lst hr' =>
        have e1 := hr.length
        have e2 := hr'.length
        have t : s.heap.IsList _ _ := ⟨_, r.trkAt ho, rfl, _, rfl⟩
        have t' : s.heap.IsList _ _ := ⟨_, r.trkAt ho', rfl, _, rfl⟩
        split at e
        · rename_i hq
          have hq := Nat.eq_of_beq_eq_true hq
          obtain ⟨w, hw, rfl⟩ := aeqs_get e hq
          have := RcAt.lists t t' (by simp only [List.size_toArray]; omega) hu (e := w) (fun j h1 h2 => by
            simp only [List.size_toArray] at h1 h2
            obtain ⟨u, g1, g2⟩ := hr.flip.get (List.getElem?_eq_getElem h1)
            obtain ⟨u', g1', g2'⟩ := hr'.flip.get (List.getElem?_eq_getElem h2)
            simp only [List.getElem_toArray]
            exact hf _ _ _ _ _ g2 g2' (hw j u u' g1 g1'))
          simp only [List.size_toArray, ← e1] at this
          exact this
        · rename_i hq
          cases e
          have hq := Nat.ne_of_beq_eq_false hq
          exact RcAt.lists_lengths t t' (by simp only [List.size_toArray, bne_iff_ne, ne_eq]; omega) hu
  · cases e
theorem aeq_at (ok : FmOk G Φ d) (r : Re G Φ own σ s.heap m trk frz) : ∀ (n : Nat) {A : Around} {x y : AV} {x' y' : Value} {b : Bool}, A.units + n + 13 < cLine → VR G (trk.map (·.1)) frz x x' → VR G (trk.map (·.1)) frz y y' → aeq σ n x y = some b → EqAt A s x' y' b
  | 0, _, _, _, _, _, _, _, _, _, e => by cases e
  | n + 1, A, x, y, x', y', b, hu, vx, vy, e => by
    unfold aeq at e
    split at e
    · rename_i hs
      cases e
      obtain ⟨C, i, rfl, rfl⟩ := sameI_inv hs
      cases vx with | ins a _ => cases vy with | ins a' _ =>
        rw [a] at a'; cases a'
        exact EqAt.same
    · split at e
      · rename_i hc
        cases e
        unfold ceq at hc
        split at hc
        · rename_i u v h1 h2
          have p1 := snap_at ok r 6 vx h1
          have p2 := snap_at ok r 6 vy h2
          refine eqAt_of p1.nofloat (fun hx => ?_) (peq_both ok.na 12 p1 p2 hc (by omega)).1
          rw [← hx] at p2
          cases PR.func ok.na p1 p2
          exact peq_refl 12 _ _ hc
        · cases hc
      · split at e
        · rename_i hd
          obtain ⟨i, j, rfl, rfl, hne⟩ := differ_inv hd
          have k := aeqL_at ok r (A := A) (by omega) vx vy e (fun x y x' y' b vx vy e => aeq_at ok r n (by show A.units + 1 + n + 13 < _; omega) vx vy e)
          cases vx with | obj a1 => cases vy with | obj a2 =>
            refine EqAt.of_refs (fun q => hne ?_) k
            subst q
            have hn := r.nd
            rw [List.map_append] at hn
            exact nd_inj (List.nodup_append.mp hn).1 a1 a2
        · cases e
theorem sc_eqA (ok : FmOk G Φ d) : SCmp G Φ .Eq ceqA := fun own σ s m trk frz x y x' y' b Q E r vx vy e q => by
  unfold ceqA at e
  split at e
  · rename_i hc; cases e; exact sc_eq ok own σ s m trk frz x y x' y' b Q E r vx vy hc q
  · have hu := units_A ok
    exact aeqL_at ok r (by omega) vx vy e (fun x y x' y' b vx vy e => aeq_at ok r 4 (by show Φ.A.units + 1 + 4 + 13 < _; omega) vx vy e) _ _ _ _ (q s.toks)
end
end Mine
namespace Mine
open PySem PySem.W PyProof.Rows PySem.Calls PySem.SeqAt

theorem preL_iff : ∀ (x y : List Nat), preL x y = true ↔ x.length ≤ y.length ∧ y.take x.length = x
  | [], y => by simp [preL]
  | a :: r, [] => by simp [preL]
  | a :: r, b :: t => by
    have e : preL (a :: r) (b :: t) = (match Nat.beq a b with | true => preL r t | false => false) := rfl
    rw [e]
    cases h : Nat.beq a b with
    | true =>
      have := Nat.eq_of_beq_eq_true h
      subst this
      dsimp only
      rw [preL_iff r t]
      simp
    | false =>
      have := Nat.ne_of_beq_eq_false h
      simp only [Bool.false_eq_true, List.length_cons, List.take_succ_cons, List.cons.injEq, false_iff, not_and]
      intro _ e
      exact absurd e.symm this
theorem subL_iff (x : List Nat) : ∀ y : List Nat, subL x y = true ↔ ∃ i, i + x.length ≤ y.length ∧ (y.drop i).take x.length = x
  | [] => by
    unfold subL
    rw [preL_iff]
    constructor
    · rintro ⟨h, e⟩; exact ⟨0, by simpa using h, by simpa using e⟩
    · rintro ⟨i, h, e⟩
      simp only [List.length_nil, Nat.le_zero] at h
      have h0 : x.length = 0 := by omega
      have : x = [] := List.length_eq_zero_iff.mp h0
      subst this
      simp
  | b :: t => by
    unfold subL
    rw [Bool.or_eq_true, preL_iff, subL_iff x t]
    constructor
    · rintro (⟨h, e⟩ | ⟨i, h, e⟩)
      · exact ⟨0, by simpa using h, by simpa using e⟩
      · exact ⟨i + 1, by simp only [List.length_cons]; omega, by simpa using e⟩
    · rintro ⟨i, h, e⟩
      cases i with
      | zero => exact .inl ⟨by simpa using h, by simpa using e⟩
      | succ i => exact .inr ⟨i, by simp only [List.length_cons] at h; omega, by simpa using e⟩
theorem contains_subL (x y : List Nat) : Txt.contains ⟨x.toArray⟩ ⟨y.toArray⟩ = subL y x := by
  have h1 : Txt.contains ⟨x.toArray⟩ ⟨y.toArray⟩ = true ↔ subL y x = true := by
    unfold Txt.contains
    rw [StrLaws.found_iff, subL_iff]
    simp only [StrLaws.subAt_eq, str_len, beq_iff_eq]
  cases q : subL y x with
  | true => exact h1.mpr q
  | false =>
    cases q' : Txt.contains ⟨x.toArray⟩ ⟨y.toArray⟩ with
    | false => rfl
    | true => rw [h1.mp q'] at q; cases q


theorem anyEq_some {f : PV → Option Bool} : ∀ {l : List PV} {b : Bool}, anyEq f l = some b → ∃ e : Nat → Bool, (∀ (j : Nat) x, l[j]? = some x → f x = some (e j)) ∧ b = (List.range l.length).any e
  | [], b, h => by cases h; exact ⟨fun _ => true, fun j x q => (by simp at q), rfl⟩
  | x :: l, b, h => by
    unfold anyEq at h
    split at h
    · cases h
    · rename_i u hu
      split at h
      · rename_i t ht
        cases h
        obtain ⟨e, he, rfl⟩ := anyEq_some ht
        refine ⟨fun j => match j with | 0 => u | j + 1 => e j, fun j x' q => ?_, ?_⟩
        · cases j with
          | zero => cases q; exact hu
          | succ j => exact he j x' q
        · rw [List.length_cons, List.range_succ_eq_map, List.any_cons, List.any_map]
          rfl
      · cases h

section
variable {G : Gl} {Φ : Fm} {d : Nat} {own : Led} {σ : St} {h h' : Heap} {m : Nm} {trk frz : Led} {s : Shared} {E : Value → Shared → Prop}

theorem any_range {e : Nat → Bool} {f : Value → Bool} : ∀ {vs : List Value}, (∀ (j : Nat) y, vs[j]? = some y → e j = f y) → (List.range vs.length).any e = vs.any f
  | [], _ => rfl
  | y :: vs, h => by
    rw [List.length_cons, List.range_succ_eq_map, List.any_cons, List.any_map, List.any_cons, h 0 y rfl]
    congr 1
    exact any_range fun j z q => h (j + 1) z q

theorem anyEq_arr {an : List Str} (hn : an.Nodup) {n : Nat} {l : List PV} {vs : List Value} {v : PV} {x : Value} {b : Bool} {A : Around} (q : PRels an s.heap [] l vs) (p : PRel an s.heap [] v x) (e : anyEq (fun u => peq n u v) l = some b) (hu : A.units + n < cLine) :
    ∃ f : Value → Bool, (∀ y, y ∈ vs.toArray → EqAt A s y x (f y)) ∧ b = vs.toArray.any f := by
  classical
  obtain ⟨e', he', rfl⟩ := anyEq_some e
  let f : Value → Bool := fun y => decide (∃ u, PRel an s.heap [] u y ∧ peq n u v = some true)
  have hf : ∀ (j : Nat) y, vs[j]? = some y → e' j = f y := by
    intro j y hj
    obtain ⟨u, hu', hr⟩ := q.get hj
    have hp := he' j u hu'
    cases hc : e' j with
    | true => rw [hc] at hp; exact (decide_eq_true ⟨u, hr, hp⟩).symm
    | false =>
      rw [hc] at hp
      refine (decide_eq_false fun ⟨u₂, h1, h2⟩ => ?_).symm
      cases PR.func hn hr h1
      rw [hp] at h2
      cases h2
  refine ⟨f, fun y hy => ?_, ?_⟩
  · obtain ⟨j, hj⟩ := List.getElem?_of_mem (List.mem_toArray.mp hy)
    obtain ⟨u, hu', hr⟩ := q.get hj
    have hp := he' j u hu'
    rw [hf j y hj] at hp
    refine eqAt_of hr.nofloat (fun hx => ?_) (peq_both hn n hr p hp hu).1
    rw [← hx] at p
    cases PR.func hn hr p
    exact peq_refl n _ _ hp
  · rw [List.any_toArray, q.all2.length]
    exact any_range hf

theorem seqP_at {v : PV} {x : Value} {l : List PV} (p : PRel G.an h [] v x) (e : seqP v = some l) : ∃ a vs, x = .ref a ∧ PRels G.an h [] l vs ∧ (h.IsList a vs.toArray ∨ IsTup h a vs.toArray) := by
  unfold seqP at e
  split at e
  · rename_i l' hl
    cases e
    rw [pureL_inv hl] at p
    obtain ⟨a, vs, h1, h2, h3⟩ := p.isLst
    exact ⟨a, vs, h1, h3, .inl h2⟩
  · rw [pureT_inv e] at p
    obtain ⟨a, vs, h1, h2, h3⟩ := p.isTup
    exact ⟨a, vs, h1, h3, .inr h2⟩

theorem cin_at (ok : FmOk G Φ d) (r : Re G Φ own σ s.heap m trk frz) {x y : AV} {x' y' : Value} {b : Bool} (vx : VR G (trk.map (·.1)) frz x x') (vy : VR G (trk.map (·.1)) frz y y') (e : cin x y σ = some b) :
    (∃ u v t t', x' = .str ⟨u⟩ t ∧ y' = .str ⟨v⟩ t' ∧ Txt.contains ⟨v⟩ ⟨u⟩ = b) ∨ ∃ a vs f, y' = .ref a ∧ (s.heap.IsList a vs ∨ IsTup s.heap a vs) ∧ (∀ z, z ∈ vs → EqAt Φ.A.in1 s z x' (f z)) ∧ b = vs.any f := by
  unfold cin at e
  split at e
  · rename_i v hv
    split at e
    · rename_i u hu
      cases e
      rw [strOf_inv hv] at vy
      rw [strOf_inv hu] at vx
      cases vx with | p vx => cases vx; cases vy with | p vy => cases vy; exact .inl ⟨_, _, _, _, rfl, rfl, contains_subL _ _⟩
    · cases e
  · split at e
    · rename_i u v hu hv
      split at e
      · rename_i l hl
        have hx := snap_at ok r 6 vx hu
        obtain ⟨a, vs, rfl, ps, hs⟩ := seqP_at (snap_at ok r 6 vy hv) hl
        have := units_A ok
        obtain ⟨f, hf, rfl⟩ := anyEq_arr (A := Φ.A.in1) ok.na ps hx e (by show Φ.A.units + 1 + 12 < _; omega)
        exact .inr ⟨a, _, f, rfl, hs, hf, rfl⟩
      · cases e
    · cases e
theorem sc_in (ok : FmOk G Φ d) : SCmp G Φ .In cin := by
  intro own σ s m trk frz x y x' y' b Q E r vx vy e q
  rcases cin_at ok r vx vy e with ⟨u, v, t, t', rfl, rfl, rfl⟩ | ⟨a, vs, f, rfl, hs, hf, rfl⟩
  · exact SB.contains (q s.toks)
  · rcases hs with hs | hs
    · exact in_listAt f hs hf (q s.toks)
    · exact in_tupleAt f hs hf (q s.toks)
theorem sc_notin (ok : FmOk G Φ d) : SCmp G Φ .NotIn (fun x y σ => notB (cin x y σ)) := by
  intro own σ s m trk frz x y x' y' b Q E r vx vy e q
  have hb : b = !(!b) := by simp
  rcases cin_at ok r vx vy (notB_inv e) with ⟨u, v, t, t', rfl, rfl, h⟩ | ⟨a, vs, f, rfl, hs, hf, h⟩
  · rw [hb, ← h] at q; exact SB.notContains (q s.toks)
  · rw [hb, h] at q
    rcases hs with hs | hs
    · exact notIn_listAt f hs hf (q s.toks)
    · exact notIn_tupleAt f hs hf (q s.toks)

theorem isNone_at {ι : List Addr} {frz : Led} {x : AV} {x' : Value} (vx : VR G ι frz x x') : (x' == Value.none) = isNone x ∧ plainIs x' .none = true := by
  cases vx with
  | p v => cases v <;> exact ⟨by first | rfl | simp [isNone], rfl⟩
  | obj => exact ⟨by simp [isNone], rfl⟩
  | ins => exact ⟨by simp [isNone], rfl⟩
theorem isNone_inv {x : AV} (h : isNone x = true) : x = .p .none := by
  unfold isNone at h
  split at h
  · rfl
  · cases h
theorem cis_inv {ι : List Addr} {frz : Led} {x y : AV} {x' y' : Value} {b : Bool} (vx : VR G ι frz x x') (vy : VR G ι frz y y') (e : cis x y = some b) : plainIs x' y' = true ∧ (x' == y') = b := by
  unfold cis at e
  split at e
  · rename_i hy
    cases e
    rw [isNone_inv hy] at vy
    cases vy with | p vy => cases vy; exact ⟨(isNone_at vx).2, (isNone_at vx).1⟩
  · cases e
theorem sc_is : SCmp G Φ .Is (fun x y _ => cis x y) := by
  intro own σ s m trk frz x y x' y' b Q E r vx vy e q
  obtain ⟨h1, h2⟩ := cis_inv vx vy e
  exact wpAny_is_plain h1 (by rw [h2]; exact q s.toks)
theorem sc_isnot : SCmp G Φ .IsNot (fun x y _ => notB (cis x y)) := by
  intro own σ s m trk frz x y x' y' b Q E r vx vy e q
  obtain ⟨h1, h2⟩ := cis_inv vx vy (notB_inv e)
  have hb : b = !(!b) := by simp
  rw [hb, ← h2] at q
  exact wpAny_isNot_plain h1 (q s.toks)

theorem s_truth (ok : FmOk G Φ d) {x : AV} {x' : Value} {b : Bool} {Q : Bool → Shared → Prop} (r : Re G Φ own σ s.heap m trk frz) (vx : VR G (trk.map (·.1)) frz x x') (e : truth x σ = some b) (q : ∀ tk, Q b { s with toks := tk }) :
    wpAny (model G.prog G.w) Φ.A (truthy x') Q E s := by
  have lst : ∀ {x : AV}, VR G (trk.map (·.1)) frz x x' → (match lstAt (objOf σ x) with | some l => (match okLen l.length with | true => some (!l.isEmpty) | false => none) | none => none) = some b → wpAny (model G.prog G.w) Φ.A (truthy x') Q E s := by
    intro x vx e
    split at e
    · rename_i l hl
      obtain ⟨i, rfl, hi⟩ := objOf_inv hl
      split at e <;> cases e
      rename_i hn
      have hn := okLen_le hn
      cases vx with | obj ha =>
        obtain ⟨o, ho, hr⟩ := r.obj ha hi
        cases hr with
        | lst hr =>
          have hlen := hr.length
          refine wpAny_truthy_list ⟨_, r.trkAt ho, rfl, _, rfl⟩ (by simp only [List.size_toArray]; omega) ?_
          rename_i vs n
          have : (!vs.toArray.isEmpty) = !l.isEmpty := by
            cases l with
            | nil => cases vs with | nil => rfl | cons => simp at hlen
            | cons => cases vs with | nil => simp at hlen | cons => rfl
          rw [this]; exact q _
    · cases e
  cases x with
  | p v =>
    cases vx with | p vx =>
    have e : truthP v = some b := e
    cases vx with
    | none => cases e; exact truthy_none (q s.toks)
    | bool => cases e; exact wpAny_truthy_bool (q s.toks)
    | int => cases e; exact truthy_int (q s.toks)
    | str l t =>
      unfold truthP at e
      dsimp only at e
      split at e <;> cases e
      rename_i hl
      have hl := okLen_le hl
      refine P.truthy_str (by rw [str_len]; omega) ?_
      have : (((⟨l.toArray⟩ : Str).length : Int) != 0) = !l.isEmpty := by
        rw [str_len]
        cases l with
        | nil => rfl
        | cons a t => simp only [List.length_cons, List.isEmpty_cons, Bool.not_false, bne_iff_ne, ne_eq]; omega
      rw [this]; exact q _
    | _ => cases e
  | obj i => exact lst vx e
  | ins C i => exact lst vx e
end
end Mine
namespace Mine
open PySem PySem.W PyProof.Rows PySem.Calls PySem.SeqAt

theorem isTrue_of_cmp {M : Model} {A : Around} {E : Value → Shared → Prop} {s : Shared} {env : Env} {l r : Expr} {op : CmpOp} {pos : Pos} {whole : Sem Value} {Q : Bool → Shared → Prop}
    (h : wpAny M A (eval (.Compare l [op] [r] pos) env) (fun v s₁ => wpAny M A (truthy v) Q E s₁) E s) : wpAny M A (isTrue (.Compare l [op] [r] pos) env whole) Q E s := fun Γ p hΓ => by
  have h' := Sem.wp_mono M Γ _ (post' := fun c p' s' => Sem.wp M Γ (truthy c) (fun a _ s' => Q a s') (fun e _ s' => E e s') p' s') (fun c p' s' (hc : wpAny M A (truthy c) Q E s') => hc Γ p' hΓ) (fun _ _ _ x => x) p s (h Γ p hΓ)
  simp only [isTrue_Compare1, Sem.wp_bind', Sem.wp_holding, Sem.wp_cmd_standAt, Sem.wp_operate]
  simp only [eval_Compare1, Sem.wp_bind', Sem.wp_holding, Sem.wp_cmd_standAt, Sem.wp_operate] at h'
  exact h'

theorem noStar_eq {e : Expr} (h : noStar e = true) (l : List Expr) (env : Env) : starEach (e :: l) env = (false, eval e env) :: starEach l env := by
  unfold noStar at h
  generalize vw e = w at h; obtain ⟨v, hv⟩ := w
  cases v <;> first | (cases hv; rfl) | cases h
theorem noSwap_eq {e : Expr} (h : noSwap e = true) (t : Option Expr) (n : Nat) (env : Env) : swapsWith e t n env = pure false := by
  unfold noSwap at h
  generalize vw e = w at h; obtain ⟨v, hv⟩ := w
  cases v <;> first | (cases hv; rfl) | cases h
theorem noFold_eq {e : Expr} (h : noFold e = true) (env : Env) (v : Value) : foldedSetIterable e env v = pure v := by
  unfold noFold at h
  generalize vw e = w at h; obtain ⟨v, hv⟩ := w
  cases v <;> first | (cases hv; rfl) | cases h
theorem noSlice_eq {e : Expr} (h : noSlice e = true) (o i : Value) : subscripted e false o i = operate [o, i] (getItem o i) := by
  unfold noSlice at h
  generalize vw e = w at h; obtain ⟨v, hv⟩ := w
  cases v <;> first | (cases hv; rfl) | cases h
theorem abOk_eq {a : Expr} {n : Str} (h : abOk a = true) (env : Env) (w : Sem Value) : attributeBase a n env w = w := by
  unfold abOk at h
  generalize vw a = w at h; obtain ⟨v, hv⟩ := w
  cases v <;> first | (cases hv; rfl) | skip
  · rename_i args _
    cases hv
    cases args with
    | nil => cases h
    | cons _ _ => rfl
  · cases h
theorem ofO_inv {α β : Type} {R : List Addr → Led → AV → β → Prop} {G : Gl} {Φ : Fm} {own : Led} {m : Nm} {trk frz : Led} {s : Shared} {Q : β → Shared → Prop} {E : Value → Shared → Prop} {o : Option α} {k : α → St → Out AV} {σ : St}
    (p : Post R G Φ own m trk frz s (ofO o k σ) Q E) : ∃ a, o = some a ∧ Post R G Φ own m trk frz s (k a σ) Q E := by
  cases o with
  | none => exact p.elim
  | some a => exact ⟨a, rfl, p⟩

section
variable {G : Gl} {Φ : Fm} {d : Nat} {own : Led} {σ : St} {h h' : Heap} {m : Nm} {trk frz : Led} {s : Shared} {E : Value → Shared → Prop}

theorem sx_cmp {a b : Expr} {op : CmpOp} {pos : Pos} {f : AV → AV → St → Option Bool} {ra rb : St → Out AV} (hm : behindInMarks op b = false) (ha : SEx G Φ a ra) (hb : SEx G Φ b rb) (ho : SCmp G Φ op f) :
    SEx G Φ (.Compare a [op] [b] pos) (fun σ => (ra σ).bind fun x σ => (rb σ).bind fun y σ => ofO (f x y σ) (fun r σ => .ok (.p (.bool r)) σ) σ) := by
  intro own σ s m trk frz Q E r p
  refine wpAny_Compare1 (ha own σ s m trk frz _ E r (p.bind fun x σ₁ x' h₁ tk₁ trk₁ frz₁ _ r₁ e₁ f₁ v₁ p₁ => ?_)) hm
  refine hb own σ₁ _ m trk₁ frz₁ _ E r₁ (p₁.bind fun y σ₂ y' h₂ tk₂ trk₂ frz₂ _ r₂ e₂ f₂ v₂ p₂ => ?_)
  obtain ⟨k, hk, p₂⟩ := ofO_inv p₂
  exact ho own σ₂ _ m trk₂ frz₂ x y x' y' k Q E r₂ (v₁.mono e₂ f₂) v₂ hk fun tk => p₂.ret r₂ (.p (.bool k))

theorem sx_not {a : Expr} {pos : Pos} {ra : St → Out AV} (ok : FmOk G Φ d) (ha : SEx G Φ a ra) : SEx G Φ (.UnaryOp .Not a pos) (fun σ => (ra σ).bind fun x σ => ofO (truth x σ) (fun r σ => .ok (.p (.bool (!r))) σ) σ) := by
  intro own σ s m trk frz Q E r p
  refine UnaryOp_ (ha own σ s m trk frz _ E r (p.bind fun x σ₁ x' h₁ tk₁ trk₁ frz₁ _ r₁ e₁ f₁ v₁ p₁ => ?_))
  obtain ⟨k, hk, p₁⟩ := ofO_inv p₁
  exact not_of (s_truth ok r₁ v₁ hk fun tk => p₁.ret r₁ (.p (.bool _)))
theorem sx_neg {a : Expr} {pos : Pos} {ra : St → Out AV} (ha : SEx G Φ a ra) : SEx G Φ (.UnaryOp .USub a pos) (fun σ => (ra σ).bind fun x σ => ofO (intOf x) (fun i σ => .ok (.p (.int (-i))) σ) σ) := by
  intro own σ s m trk frz Q E r p
  refine UnaryOp_ (ha own σ s m trk frz _ E r (p.bind fun x σ₁ x' h₁ tk₁ trk₁ frz₁ _ r₁ e₁ f₁ v₁ p₁ => ?_))
  obtain ⟨k, hk, p₁⟩ := ofO_inv p₁
  rw [intOf_inv hk] at v₁
  cases v₁ with | p v₁ => cases v₁; exact neg_int (p₁.ret r₁ (.p (.int _ _)))

theorem sx_and {a b : Expr} {rest : List Expr} {pos : Pos} {ra rb : St → Out AV} (ok : FmOk G Φ d) (ha : SEx G Φ a ra) (hb : SEx G Φ (.BoolOp .And (b :: rest) pos) rb) :
    SEx G Φ (.BoolOp .And (a :: b :: rest) pos) (fun σ => (ra σ).bind fun x σ => ofO (truth x σ) (fun r σ => match r with | true => rb σ | false => .ok x σ) σ) := by
  intro own σ s m trk frz Q E r p
  refine BoolOp_and (ha own σ s m trk frz _ E r (p.bind fun x σ₁ x' h₁ tk₁ trk₁ frz₁ _ r₁ e₁ f₁ v₁ p₁ => ?_))
  obtain ⟨k, hk, p₁⟩ := ofO_inv p₁
  cases k with
  | true => exact s_truth ok r₁ v₁ hk fun tk => hb own σ₁ _ m trk₁ frz₁ Q E r₁ (Post.later p₁ (List.prefix_refl _) fun _ q => q)
  | false => exact s_truth ok r₁ v₁ hk fun tk => p₁.ret r₁ v₁
theorem sx_or {a b : Expr} {rest : List Expr} {pos : Pos} {ra rb : St → Out AV} (ok : FmOk G Φ d) (ha : SEx G Φ a ra) (hb : SEx G Φ (.BoolOp .Or (b :: rest) pos) rb) :
    SEx G Φ (.BoolOp .Or (a :: b :: rest) pos) (fun σ => (ra σ).bind fun x σ => ofO (truth x σ) (fun r σ => match r with | true => .ok x σ | false => rb σ) σ) := by
  intro own σ s m trk frz Q E r p
  refine BoolOp_or (ha own σ s m trk frz _ E r (p.bind fun x σ₁ x' h₁ tk₁ trk₁ frz₁ _ r₁ e₁ f₁ v₁ p₁ => ?_))
  obtain ⟨k, hk, p₁⟩ := ofO_inv p₁
  cases k with
  | true => exact s_truth ok r₁ v₁ hk fun tk => p₁.ret r₁ v₁
  | false => exact s_truth ok r₁ v₁ hk fun tk => hb own σ₁ _ m trk₁ frz₁ Q E r₁ (Post.later p₁ (List.prefix_refl _) fun _ q => q)
theorem sx_one {a : Expr} {op : BoolOp} {pos : Pos} {ra : St → Out AV} (ha : SEx G Φ a ra) : SEx G Φ (.BoolOp op [a] pos) ra := fun own σ s m trk frz Q E r p => BoolOp_one (ha own σ s m trk frz Q E r p)
theorem sx_ite {t a b : Expr} {pos : Pos} {rt : St → Out Bool} {ra rb : St → Out AV} (ht : STs G Φ t rt) (ha : SEx G Φ a ra) (hb : SEx G Φ b rb) :
    SEx G Φ (.IfExp t a b pos) (fun σ => (rt σ).bind fun r σ => match r with | true => ra σ | false => rb σ) := by
  intro own σ s m trk frz Q E r p
  refine IfExp_ (ht own σ s m trk frz _ E r (p.bind fun x σ₁ x' h₁ tk₁ trk₁ frz₁ _ r₁ e₁ f₁ v₁ p₁ => ?_))
  subst v₁
  cases x with
  | true => exact ha own σ₁ _ m trk₁ frz₁ Q E r₁ p₁
  | false => exact hb own σ₁ _ m trk₁ frz₁ Q E r₁ p₁

theorem st_not {a : Expr} {pos : Pos} {ra : St → Out Bool} (ha : STs G Φ a ra) : STs G Φ (.UnaryOp .Not a pos) (fun σ => (ra σ).bind fun r σ => .ok (!r) σ) := by
  intro own σ s m trk frz Q E r p
  refine isTrue_not (ha own σ s m trk frz _ E r (p.bind fun x σ₁ x' h₁ tk₁ trk₁ frz₁ _ r₁ e₁ f₁ v₁ p₁ => ?_))
  subst v₁
  exact p₁.ret0 r₁ rfl
theorem st_and {a : Expr} {rest : List Expr} {pos : Pos} {ra rb : St → Out Bool} (ha : STs G Φ a ra) (hb : ∀ whole own σ s m trk frz Q E, Re G Φ own σ s.heap m trk frz → Post BR G Φ own m trk frz s (rb σ) Q E → wpAny (model G.prog G.w) Φ.A (isTrue (.BoolOp .And rest pos) Φ.env whole) Q E s) (whole : Sem Value) :
    ∀ own σ s m trk frz Q E, Re G Φ own σ s.heap m trk frz → Post BR G Φ own m trk frz s ((ra σ).bind fun r σ => match r with | true => rb σ | false => .ok false σ) Q E → wpAny (model G.prog G.w) Φ.A (isTrue (.BoolOp .And (a :: rest) pos) Φ.env whole) Q E s := by
  intro own σ s m trk frz Q E r p
  refine isTrue_and (ha own σ s m trk frz _ E r (p.bind fun x σ₁ x' h₁ tk₁ trk₁ frz₁ _ r₁ e₁ f₁ v₁ p₁ => ?_))
  subst v₁
  cases x with
  | true => exact hb whole own σ₁ _ m trk₁ frz₁ Q E r₁ p₁
  | false => exact p₁.ret0 r₁ rfl
theorem st_or {a : Expr} {rest : List Expr} {pos : Pos} {ra rb : St → Out Bool} (ha : STs G Φ a ra) (hb : ∀ whole own σ s m trk frz Q E, Re G Φ own σ s.heap m trk frz → Post BR G Φ own m trk frz s (rb σ) Q E → wpAny (model G.prog G.w) Φ.A (isTrue (.BoolOp .Or rest pos) Φ.env whole) Q E s) (whole : Sem Value) :
    ∀ own σ s m trk frz Q E, Re G Φ own σ s.heap m trk frz → Post BR G Φ own m trk frz s ((ra σ).bind fun r σ => match r with | true => .ok true σ | false => rb σ) Q E → wpAny (model G.prog G.w) Φ.A (isTrue (.BoolOp .Or (a :: rest) pos) Φ.env whole) Q E s := by
  intro own σ s m trk frz Q E r p
  refine isTrue_or (ha own σ s m trk frz _ E r (p.bind fun x σ₁ x' h₁ tk₁ trk₁ frz₁ _ r₁ e₁ f₁ v₁ p₁ => ?_))
  subst v₁
  cases x with
  | true => exact p₁.ret0 r₁ rfl
  | false => exact hb whole own σ₁ _ m trk₁ frz₁ Q E r₁ p₁

theorem st_plain {e : Expr} {re : St → Out AV} (ok : FmOk G Φ d) (he : SEx G Φ e re) (hi : ∀ (Q : Bool → Shared → Prop) E s, wpAny (model G.prog G.w) Φ.A (eval e Φ.env) (fun v s₁ => wpAny (model G.prog G.w) Φ.A (truthy v) Q E s₁) E s → wpAny (model G.prog G.w) Φ.A (isTrue e Φ.env (eval e Φ.env)) Q E s) :
    STs G Φ e (fun σ => (re σ).bind fun v σ => (match truth v σ with | some r => .ok r σ | none => .stuck)) := by
  intro own σ s m trk frz Q E r p
  refine hi Q E s (he own σ s m trk frz _ E r (p.bind fun x σ₁ x' h₁ tk₁ trk₁ frz₁ _ r₁ e₁ f₁ v₁ p₁ => ?_))
  split at p₁
  · rename_i k hk; exact s_truth ok r₁ v₁ hk fun tk => p₁.ret r₁ rfl
  · exact p₁.elim

theorem sxs_nil : SExs G Φ [] (fun σ => .ok [] σ) := fun pos own σ s m trk frz Q E r p => spliced_nil (p.ret0 r .nil)
theorem sxs_cons {e : Expr} {l : List Expr} {re : St → Out AV} {rl : St → Out (List AV)} (hs : starEach (e :: l) Φ.env = (false, eval e Φ.env) :: starEach l Φ.env) (he : SEx G Φ e re) (hl : SExs G Φ l rl) :
    SExs G Φ (e :: l) (fun σ => (re σ).bind fun v σ => (rl σ).bind fun vs σ => .ok (v :: vs) σ) := by
  intro pos own σ s m trk frz Q E r p
  rw [hs]
  refine spliced_cons (he own σ s m trk frz _ E r (p.bind fun x σ₁ x' h₁ tk₁ trk₁ frz₁ _ r₁ e₁ f₁ v₁ p₁ => ?_))
  refine hl pos own σ₁ _ m trk₁ frz₁ _ E r₁ (p₁.bind fun y σ₂ y' h₂ tk₂ trk₂ frz₂ _ r₂ e₂ f₂ v₂ p₂ => ?_)
  exact p₂.ret0 r₂ (.cons (v₁.mono e₂ f₂) v₂)

theorem pure_all2 {l : List AV} {ps : List PV} {vs : List Value} {ι : List Addr} {frz : Led} (h : All2 (VR G ι frz) l vs) (e : l.mapM pOf = some ps) : PRels G.an G.hb frz ps vs := by
  have h2 := mapM_all2 e
  clear e
  induction h generalizing ps with
  | nil => cases h2; exact .nil
  | cons hv _ ih =>
    cases h2 with
    | cons hx h2 =>
      cases hv with
      | p hv => cases hx; exact .cons hv (ih h2)
      | obj _ => cases hx
      | ins _ _ => cases hx

theorem mapM_length {α β : Type} {f : α → Option β} {l : List α} {r : List β} (h : l.mapM f = some r) : l.length = r.length := (mapM_all2 h).length

theorem sx_tup {l : List Expr} {k : Nat} {pos : Pos} {rl : St → Out (List AV)} (hl : SExs G Φ l rl) :
    SEx G Φ (.Tuple l k pos) (fun σ => (rl σ).bind fun vs σ => ofO (vs.mapM pOf) (fun ps σ => match okLen ps.length with | true => .ok (.p (.tup ps)) σ | false => .stuck) σ) := by
  intro own σ s m trk frz Q E r p
  refine Tuple_ (hl pos own σ s m trk frz _ E r (p.bind fun x σ₁ x' h₁ tk₁ trk₁ frz₁ _ r₁ e₁ f₁ v₁ p₁ => ?_))
  obtain ⟨ps, hps, p₁⟩ := ofO_inv p₁
  split at p₁
  · rename_i hz
    have hz := okLen_le hz
    have hq := pure_all2 v₁ hps
    refine newTuple_N r₁.F r₁.N (fun h' F' N' => ?_) ?_
    · have r₂ := r₁.pushF F' N' (fun p hp => Heap.lt_size (r₁.N p hp).1)
      exact p₁ _ h' _ trk₁ _ r₂ (List.prefix_refl _) (fun _ q => .tail _ q) (.p (.tup (.inr (.head _)) rfl rfl (hq.mono fun _ q => .tail _ q)))
    · have e1 := v₁.length
      have e2 := mapM_length hps
      rw [sizeLine_eq]; omega
  · exact p₁.elim
theorem sx_lst {l : List Expr} {pos : Pos} {rl : St → Out (List AV)} (hl : SExs G Φ l rl) : SEx G Φ (.List l pos) (fun σ => (rl σ).bind fun vs σ => newLst vs σ) := by
  intro own σ s m trk frz Q E r p
  refine List_ (hl pos own σ s m trk frz _ E r (p.bind fun x σ₁ x' h₁ tk₁ trk₁ frz₁ _ r₁ e₁ f₁ v₁ p₁ => ?_))
  have hlen : okLen x.length = true := by
    unfold newLst at p₁
    split at p₁
    · assumption
    · exact p₁.elim
  have hlen := okLen_le hlen
  have e1 := v₁.length
  exact newList_K r₁.F r₁.N (fun l h' F' N' hl => newLst_post (n := 0) r₁ v₁ p₁ F' N' hl) (by rw [sizeLine_eq]; omega)

theorem seqIdx {k : Int} {n : Nat} (h0 : 0 ≤ k) (h1 : k.toNat < n) : seqIndex? k n = some k.toNat := by
  unfold seqIndex?
  have h2 : ¬ k < 0 := by omega
  have h3 : k < (n : Int) := by omega
  simp [h2, h0, h3]

theorem idx_inv {x y v : AV} (e : idxOf σ x y = some v) : ∃ k, y = .p (.int k) ∧ 0 ≤ k ∧ k < 1000000 ∧ ((∃ l c, x = .p (.str l) ∧ l[k.toNat]? = some c ∧ v = .p (.str [c])) ∨ ∃ l, itemsOf σ x = some l ∧ l[k.toNat]? = some v) := by
  unfold idxOf at e
  split at e
  · cases e
  · rename_i k hy
    split at e
    · cases e
    · rename_i hk
      unfold okInt at hk
      simp only [Bool.and_eq_true, decide_eq_true_eq] at hk
      refine ⟨k, intOf_inv hy, hk.1, hk.2, ?_⟩
      split at e
      · rename_i l hx
        split at e
        · rename_i q; cases e; exact .inl ⟨_, _, strOf_inv hx, q, rfl⟩
        · cases e
      · split at e
        · rename_i l q; exact .inr ⟨l, q, e⟩
        · cases e

theorem sx_idx {a b : Expr} {pos : Pos} {ra rb : St → Out AV} (ok : FmOk G Φ d) (hc : noSlice b = true) (ha : SEx G Φ a ra) (hb : SEx G Φ b rb) :
    SEx G Φ (.Subscript a b pos) (fun σ => (ra σ).bind fun x σ => (rb σ).bind fun y σ => ofO (idxOf σ x y) .ok σ) := by
  intro own σ s m trk frz Q E r p
  refine Subscript_ (ha own σ s m trk frz _ E r (p.bind fun x σ₁ x' h₁ tk₁ trk₁ frz₁ _ r₁ e₁ f₁ v₁ p₁ => ?_))
  refine hb own σ₁ _ m trk₁ frz₁ _ E r₁ (p₁.bind fun y σ₂ y' h₂ tk₂ trk₂ frz₂ _ r₂ e₂ f₂ v₂ p₂ => ?_)
  obtain ⟨v, hv, p₃⟩ := ofO_inv p₂
  obtain ⟨k, rfl, h0, h1, hv⟩ := idx_inv hv
  cases v₂ with | p v₂ =>
    cases v₂ with | int _ t =>
    have hs := fun (o : Value) => noSlice_eq hc o (.int k t)
    rcases hv with ⟨l, ch, rfl, hl, rfl⟩ | ⟨l, hl, hv⟩
    · cases v₁ with | p v₁ =>
        cases v₁
        have hlt := (List.getElem?_eq_some_iff.mp hl).1
        refine tail_any (typeIs_str _ _ _) slot_str_getitem.lookup (PyProof.Rows.getItem_str (c := ch) ?_ ?_ (p₃.ret r₂ (.p (.str [ch] _)))) (hs _)
        · simp only [Bool.or_eq_false_iff, decide_eq_false_iff_not]; omega
        · rw [str_len, seqIdx h0 (by omega)]
          simpa using hl
    · obtain ⟨ad, vs, rfl, hvs, hseq⟩ := seq_at ok r₂ (v₁.mono e₂ f₂) hl
      obtain ⟨w, hw, hr⟩ := hvs.get hv
      have hk : k.toNat < vs.length := (List.getElem?_eq_some_iff.mp hw).1
      rcases hseq with hseq | hseq
      · exact tail_any hseq.typeIs slot_list_getitem.lookup (wpAny_getItem_list hseq h0 (by omega) (by simpa using hw) (p₃.ret0 r₂ hr)) (hs _)
      · refine tail_any hseq.typeIs slot_tuple_getitem.lookup (getItem_tuple (j := k.toNat) hseq (by omega) (by omega) ?_ (by simpa using hw) (p₃.ret0 r₂ hr)) (hs _)
        exact seqIdx h0 (by simp only [List.size_toArray]; omega)
end
end Mine
namespace Mine
open PySem PySem.W PyProof.Rows PySem.Calls PySem.SeqAt

inductive FlR (G : Gl) (ι : List Addr) (frz : Led) : Fl → Flow → Prop where
  | next : FlR G ι frz .next .next
  | brk : FlR G ι frz .brk .brk
  | cont : FlR G ι frz .cont .cont
  | ret {v : AV} {v' : Value} : VR G ι frz v v' → FlR G ι frz (.ret v) (.ret v')

noncomputable def PostS (G : Gl) (Φ : Fm) (own : Led) (fb : Nat) (trk frz : Led) (s : Shared) (o : Out Fl) (Q : Flow → Shared → Prop) (E : Value → Shared → Prop) : Prop := match o with
  | .ok a σ' => ∀ b h' tk' m' trk' frz', Re G Φ own σ' h' m' trk' frz' → (trk.map (·.1)).take fb <+: trk'.map (·.1) → (∀ q ∈ frz, q ∈ frz') → FlR G (trk'.map (·.1)) frz' a b → Q b { s with heap := h', toks := tk' }
  | .exc x σ' => ∀ e h' tk' m' trk' frz', XCore G Φ own x σ' m' trk' frz' e h' → (trk.map (·.1)).take fb <+: trk'.map (·.1) → (∀ q ∈ frz, q ∈ frz') → E (.ref e) { s with heap := h', toks := tk' }
  | .stuck => False

noncomputable def SSts (G : Gl) (Φ : Fm) (l : List Stmt) (r : Nat → St → Out Fl) : Prop := ∀ fb own σ s m trk frz Q E, Re G Φ own σ s.heap m trk frz → fb ≤ trk.length → PostS G Φ own fb trk frz s (r fb σ) Q E → wpAny (model G.prog G.w) Φ.A (execs l Φ.env) Q E s
noncomputable def SSt (G : Gl) (Φ : Fm) (l : Stmt) (r : Nat → St → Out Fl) : Prop := ∀ fb own σ s m trk frz Q E, Re G Φ own σ s.heap m trk frz → fb ≤ trk.length → PostS G Φ own fb trk frz s (r fb σ) Q E → wpAny (model G.prog G.w) Φ.A (exec l Φ.env) Q E s

noncomputable def Gl.fq (G : Gl) : Option (Nat × Nat × Nat) := G.fx.map fun f => (f.D.C, f.ia, f.ib)
noncomputable def Fm.cc (Φ : Fm) (G : Gl) : CC := ⟨G.K, Φ.env.scope, Φ.ns, Φ.cv, Φ.cm, G.an, Φ.top, G.fq⟩

structure FnW (G : Gl) (f : Nat) (fd : Fd) where
  name : Str
  qual : Str
  params : Arguments
  body : List Stmt
  scope : Scope
  dV : Value
  kV : Value
  doc : Value
  pm : Value
  cdv : Value
  ct : Value
  oc : Value
  an : Option Addr
  od : Option Addr
  osl : Array (Option Value)
  ns : List Str
structure FnOk (G : Gl) (f : Nat) (fd : Fd) (W : FnW G f fd) : Prop where
  at_ : G.K.lookup f = some ⟨W.oc, W.od, .func (fnOf W.name W.qual W.params W.body W.scope W.dV W.kV W.doc W.pm W.an W.cdv W.ct), W.osl⟩
  code : codeIn G.K W.cdv W.qual = true
  bind : ∀ vals : List Value, vals.length = fd.npar → bindArgs (fnOf W.name W.qual W.params W.body W.scope W.dV W.kV W.doc W.pm W.an W.cdv W.ct) ⟨vals, []⟩ = pure ((W.ns.take fd.npar).zip vals)
  kind : W.scope.kind = .function
  co : W.scope.isCoroutine = false
  gen : W.scope.isGenerator = false
  kn : ∀ x ∈ W.ns, W.scope.names.lookup x = some .local ∨ W.scope.names.lookup x = some .cell
  cnd : ((cellsFrom 0 W.scope.names []).map (·.1)).Nodup
  len : W.ns.length + 1 = fd.nloc
  nd : W.ns.Nodup
  par : fd.npar ≤ W.ns.length
  cts : Cts ⟨G.K, W.scope, W.ns, [], false, G.an, false, G.fq⟩ W.body fd.body
noncomputable def FnsOk (G : Gl) (P : Prg) : Prop := ∀ f fd, lookN f P.fns = some fd → ∃ W : FnW G f fd, FnOk G f fd W

noncomputable def SCl (G : Gl) (d : Nat) (r : Nat → List AV → St → Out AV) : Prop := ∀ (Φ : Fm) (d₀ : Nat) (A : Around), FmOk G Φ d₀ → A.frames = some (Φ.fenv :: Φ.outer) → A.depth + d < recursionLimit → A.units + 20 * (d + 1) < cLine → A.handled = none →
  ∀ f vs vs' own σ s m trk frz R, Re G Φ own σ s.heap m trk frz → All2 (VR G (trk.map (·.1)) frz) vs vs' → Post (VR G) G Φ own m trk frz s (r f vs σ) (fun v s' => R (.ok (.ret v)) s') (fun e s' => R (.error e) s') → codeAny (model G.prog G.w) A (.call (.ref f) ⟨vs', []⟩) R s

section
variable {G : Gl} {Φ : Fm} {d : Nat} {own : Led} {σ : St} {h h' : Heap} {m : Nm} {trk frz : Led} {s : Shared} {E : Value → Shared → Prop}



theorem bindL_out {kind : Str → Option NameKind} {x : Str} : ∀ {ns : List Str} {vs : List Value} {m : Str → Option Value}, x ∉ ns → bindL kind (ns.zip vs) m x = m x
  | [], _, _, _ => rfl
  | _ :: _, [], _, _ => rfl
  | y :: r, v :: t, m, h => by
    have h' : x ≠ y ∧ x ∉ r := by simpa [not_or] using h
    show bindL kind (r.zip t) _ x = _
    rw [bindL_out h'.2]
    split
    · show (if x = y then some v else m x) = _
      rw [if_neg h'.1]
    · rfl
theorem bindC_out {kind : Str → Option NameKind} {x : Str} : ∀ {ns : List Str} {vs : List Value} {m : Str → Option Value}, x ∉ ns → bindC kind (ns.zip vs) m x = m x
  | [], _, _, _ => rfl
  | _ :: _, [], _, _ => rfl
  | y :: r, v :: t, m, h => by
    have h' : x ≠ y ∧ x ∉ r := by simpa [not_or] using h
    show bindC kind (r.zip t) _ x = _
    rw [bindC_out h'.2]
    split
    · rfl
    · show (if x = y then some v else m x) = _
      rw [if_neg h'.1]
theorem bindL_zip {kind : Str → Option NameKind} {x : Str} {v : Value} (hk : kind x = some .local) : ∀ {ns : List Str} {vs : List Value} {i : Nat} {m : Str → Option Value}, ns.Nodup → ns[i]? = some x → vs[i]? = some v → bindL kind (ns.zip vs) m x = some v
  | [], _, _, _, _, h, _ => by simp at h
  | _ :: _, [], _, _, _, _, h => by simp at h
  | y :: r, w :: t, 0, m, nd, h, k => by
    cases h; cases k
    show bindL kind (r.zip t) _ x = _
    rw [bindL_out (List.nodup_cons.mp nd).1, if_pos hk]
    show (if x = x then some v else m x) = _
    rw [if_pos rfl]
  | y :: r, w :: t, i + 1, m, nd, h, k => bindL_zip hk (ns := r) (vs := t) (i := i) (List.nodup_cons.mp nd).2 (by simpa using h) (by simpa using k)
theorem bindC_zip {kind : Str → Option NameKind} {x : Str} {v : Value} (hk : kind x = some .cell) : ∀ {ns : List Str} {vs : List Value} {i : Nat} {m : Str → Option Value}, ns.Nodup → ns[i]? = some x → vs[i]? = some v → bindC kind (ns.zip vs) m x = some v
  | [], _, _, _, _, h, _ => by simp at h
  | _ :: _, [], _, _, _, _, h => by simp at h
  | y :: r, w :: t, 0, m, nd, h, k => by
    cases h; cases k
    show bindC kind (r.zip t) _ x = _
    rw [bindC_out (List.nodup_cons.mp nd).1, if_neg (by rw [hk]; intro e; cases e)]
    show (if x = x then some v else m x) = _
    rw [if_pos rfl]
  | y :: r, w :: t, i + 1, m, nd, h, k => bindC_zip hk (ns := r) (vs := t) (i := i) (List.nodup_cons.mp nd).2 (by simpa using h) (by simpa using k)

theorem cellsAre_get {cm : Str → Option Value} {cs : List (Str × Addr)} {cells : Led} (h : CellsAre cm cs cells) : ∀ {x : Str} {a : Addr}, cs.lookup x = some a → ∃ o, (a, o) ∈ cells ∧ o.data = .cell (cm x) := by
  induction h with
  | nil => intro x a e; cases e
  | cons hd _ ih =>
    rename_i n c o cs cells _
    intro x a e
    rw [List.lookup_cons] at e
    split at e
    · rename_i q
      cases e
      exact ⟨o, .head _, by rw [eq_of_beq q]; exact hd⟩
    · obtain ⟨o', ho, hd'⟩ := ih e
      exact ⟨o', .tail _ ho, hd'⟩
theorem cellsAre_keys {cm : Str → Option Value} {cs : List (Str × Addr)} {cells : Led} (h : CellsAre cm cs cells) : cells.map (·.1) = cs.map (·.2) := by
  induction h with
  | nil => rfl
  | cons _ _ ih => simp [ih]
theorem cellsFrom_addr : ∀ (names : List (Str × NameKind)) (n : Nat) (acc : List (Str × Addr)), (acc.map (·.2)).Nodup → (∀ c ∈ acc.map (·.2), c < n) →
    ((cellsFrom n names acc).map (·.2)).Nodup ∧ ∀ c ∈ (cellsFrom n names acc).map (·.2), c ∈ acc.map (·.2) ∨ n ≤ c
  | [], n, acc, h, _ => ⟨h, fun c hc => .inl hc⟩
  | (y, k) :: r, n, acc, h, hl => by
    unfold cellsFrom
    split
    · obtain ⟨h1, h2⟩ := cellsFrom_addr r (n + 1) ((y, n) :: acc) (List.nodup_cons.mpr ⟨fun hm => Nat.lt_irrefl _ (hl n hm), h⟩) (fun c hc => by
        rcases List.mem_cons.mp hc with rfl | hc
        · exact Nat.lt_succ_self _
        · exact Nat.lt_succ_of_lt (hl c hc))
      refine ⟨h1, fun c hc => ?_⟩
      rcases h2 c hc with h3 | h3
      · rcases List.mem_cons.mp h3 with rfl | h3
        · exact .inr (Nat.le_refl _)
        · exact .inl h3
      · exact .inr (Nat.le_of_succ_le h3)
    · exact cellsFrom_addr r n acc h hl
theorem lookup_inj : ∀ {cs : List (Str × Addr)} {x y : Str} {a : Addr}, (cs.map (·.2)).Nodup → cs.lookup x = some a → cs.lookup y = some a → x = y
  | [], _, _, _, _, h, _ => by cases h
  | (z, c) :: r, x, y, a, nd, h, k => by
    have nd' := List.nodup_cons.mp nd
    have mem : ∀ {w : Str}, r.lookup w = some c → False := fun {w} e => nd'.1 (List.mem_map_of_mem (f := (·.2)) (mem_of_lookup e))
    rw [List.lookup_cons] at h k
    split at h
    · rename_i q
      cases h
      split at k
      · rename_i q'; rw [eq_of_beq q, eq_of_beq q']
      · exact (mem k).elim
    · split at k
      · cases k; exact (mem h).elim
      · exact lookup_inj nd'.2 h k

/-- the places of a function's names -/
noncomputable def plOf (sc : Scope) (cs : List (Str × Addr)) (ns : List Str) : List Pl := ns.map fun x => match sc.names.lookup x with
  | some .cell => .cell ((cs.lookup x).getD 0)
  | _ => .loc x

theorem plOf_cmp {sc : Scope} {cs : List (Str × Addr)} {ns : List Str} (x : Str) : Pl.cmp x ∉ plOf sc cs ns := by
  intro h
  obtain ⟨y, _, e⟩ := List.mem_map.mp h
  split at e <;> cases e
theorem plOf_loc {sc : Scope} {cs : List (Str × Addr)} {ns : List Str} {i : Nat} {x : Str} (h : ns[i]? = some x) (hl : sc.names.lookup x = some .local) : (plOf sc cs ns)[i]? = some (.loc x) := by
  unfold plOf; rw [List.getElem?_map, h]; simp [hl]
theorem plOf_cell {sc : Scope} {cs : List (Str × Addr)} {ns : List Str} {i : Nat} {x : Str} {a : Addr} (h : ns[i]? = some x) (hl : sc.names.lookup x = some .cell) (ha : cs.lookup x = some a) : (plOf sc cs ns)[i]? = some (.cell a) := by
  unfold plOf; rw [List.getElem?_map, h]; simp [hl, ha]
theorem plOf_nodup {sc : Scope} {cs : List (Str × Addr)} (hc : (cs.map (·.2)).Nodup) : ∀ {ns : List Str}, ns.Nodup → (∀ x ∈ ns, sc.names.lookup x = some .local ∨ (sc.names.lookup x = some .cell ∧ (cs.lookup x).isSome = true)) → (plOf sc cs ns).Nodup := by
  intro ns nd hk
  unfold plOf
  refine (List.pairwise_map.mpr ?_)
  refine List.Pairwise.imp_of_mem ?_ nd
  intro x y hx hy hne
  rcases hk x hx with h | ⟨h, hs⟩ <;> rcases hk y hy with k | ⟨k, ks⟩ <;> simp only [h, k]
  · intro e; cases e; exact hne rfl
  · intro e; cases e
  · intro e; cases e
  · obtain ⟨a, ha⟩ := Option.isSome_iff_exists.mp hs
    obtain ⟨b, hb⟩ := Option.isSome_iff_exists.mp ks
    rw [ha, hb]
    intro e
    have : a = b := (by cases e; rfl)
    subst this
    exact hne (lookup_inj hc ha hb)

/-- the callee's state at its entry -/
theorem Re.enter {Φ' : Fm} {vs : List AV} {vs' : List Value} {npar : Nat} {cs : List (Str × Addr)} {cells : Led} {h₁ : Heap} (r : Re G Φ own σ h m trk frz) (hv : All2 (VR G (trk.map (·.1)) frz) vs vs') (hn : vs.length = npar) (k : Nat) (nd : Φ'.ns.Nodup) (hl : npar ≤ Φ'.ns.length)
    (hkn : ∀ x ∈ Φ'.ns, Φ'.scope.names.lookup x = some .local ∨ Φ'.scope.names.lookup x = some .cell) (hcs : cs = cellsFrom (Φ'.L + 1) Φ'.scope.names [])
    (hpl : Φ'.pl = plOf Φ'.scope cs Φ'.ns)
    (F : Fr Φ'.h₀ Φ'.L h₁ (bindL (fun y => Φ'.scope.names.lookup y) ((Φ'.ns.take npar).zip vs') fun _ => none)) (N : News Φ'.h₀ Φ'.L h₁ (cells ++ (trk ++ (frz ++ (m.cel ++ own)))))
    (Y : CellsAre (bindC (fun y => Φ'.scope.names.lookup y) ((Φ'.ns.take npar).zip vs') fun _ => none) cs cells) (hlt : ∀ p ∈ trk ++ (frz ++ (m.cel ++ own)), p.1 < Φ'.L) :
    Re G Φ' (m.cel ++ own) ⟨σ.hp, σ.hw, vs.map some ++ List.replicate k none⟩ h₁ ⟨bindL (fun y => Φ'.scope.names.lookup y) ((Φ'.ns.take npar).zip vs') fun _ => none, cells⟩ trk frz := by
  have ca := cellsFrom_addr Φ'.scope.names (Φ'.L + 1) [] List.nodup_nil (fun _ h => by cases h)
  rw [← hcs] at ca
  have ky := cellsAre_keys Y
  have hsome : ∀ x, Φ'.scope.names.lookup x = some .cell → ∃ a, cs.lookup x = some a := fun x hx => by
    rw [hcs]; exact Option.isSome_iff_exists.mp (cellsFrom_some _ _ _ (.inl hx))
  refine ⟨F, newsSub N fun p hp => ?_, ?_, r.hp, r.bd, r.hw, fun i v e => ?_, fun a ha => ?_⟩
  · simp only [List.mem_append] at hp ⊢
    rcases hp with hp | hp | hp | hp | hp <;> simp [hp]
  · have hnd : ((cells ++ (trk ++ (frz ++ (m.cel ++ own)))).map (·.1)).Nodup := by
      rw [List.map_append]
      refine List.nodup_append.mpr ⟨ky ▸ ca.1, r.nd, fun a ha b hb e => ?_⟩
      subst e
      rw [ky] at ha
      rcases ca.2 a ha with h1 | h1
      · cases h1
      · obtain ⟨p, hp, rfl⟩ := List.mem_map.mp hb
        exact absurd (hlt p hp) (Nat.not_lt.mpr (Nat.le_of_succ_le h1))
    refine List.Perm.nodup_iff ?_ |>.mp hnd
    refine List.Perm.map _ ?_
    show (cells ++ (trk ++ (frz ++ (m.cel ++ own)))).Perm (trk ++ (frz ++ (cells ++ (m.cel ++ own))))
    have h1 : (cells ++ (trk ++ (frz ++ (m.cel ++ own)))).Perm (trk ++ (cells ++ (frz ++ (m.cel ++ own)))) := by
      rw [← List.append_assoc, ← List.append_assoc trk]
      exact List.Perm.append_right _ List.perm_append_comm
    refine h1.trans (List.Perm.append_left _ ?_)
    rw [← List.append_assoc, ← List.append_assoc frz]
    exact List.Perm.append_right _ List.perm_append_comm
  · have hi : i < vs.length := by
      apply Nat.lt_of_not_le
      intro hle
      rw [List.getElem?_append_right (by simpa using hle), List.getElem?_replicate] at e
      split at e <;> cases e
    rw [List.getElem?_append_left (by simpa using hi), List.getElem?_map] at e
    have e' : vs[i]? = some v := by
      cases q : vs[i]? with
      | none => rw [q] at e; cases e
      | some w => rw [q] at e; cases e; rfl
    obtain ⟨v', hv', hr⟩ := hv.get e'
    have hx : Φ'.ns[i]? = some Φ'.ns[i] := List.getElem?_eq_getElem (by omega)
    have ht : (Φ'.ns.take npar)[i]? = some Φ'.ns[i] := by rw [List.getElem?_take_of_lt (by omega)]; exact hx
    have ndt := nd.sublist (List.take_sublist npar Φ'.ns)
    rcases hkn _ (List.mem_of_getElem? hx) with hk | hk
    · exact ⟨.loc _, v', by rw [hpl]; exact plOf_loc hx hk, bindL_zip (i := i) hk ndt ht hv', hr⟩
    · obtain ⟨a, ha⟩ := hsome _ hk
      obtain ⟨o, ho, hd⟩ := cellsAre_get Y ha
      rw [bindC_zip (i := i) hk ndt ht hv'] at hd
      exact ⟨.cell a, v', by rw [hpl]; exact plOf_cell hx hk ha, ⟨o, ho, hd⟩, hr⟩
  · rw [hpl] at ha
    obtain ⟨x, hx, e⟩ := List.mem_map.mp ha
    rcases hkn x hx with hk | hk
    · simp only [hk] at e; cases e
    · obtain ⟨b, hb⟩ := hsome x hk
      simp only [hk, hb] at e
      cases e
      obtain ⟨o, ho, hd⟩ := cellsAre_get Y hb
      exact ⟨o, _, ho, hd⟩

theorem bd_take_self {n : Nat} (r : Re G Φ own σ h m trk frz) : (trk.map (·.1)).take σ.hp.length = trk.map (·.1) := List.take_of_length_le (by simp [r.len])

theorem Re.loBd (r : Re G Φ own σ h m trk frz) : obds σ.lo ≤ σ.hp.length := by
  rw [obds_le]
  intro v hv
  obtain ⟨i, hi⟩ := List.getElem?_of_mem hv
  obtain ⟨_, _, _, _, hr⟩ := r.lo i v hi
  have := hr.bd_le
  rw [List.length_map, ← r.len] at this
  exact this

/-- the caller's state behind a call -/
theorem Re.back {Φ' : Fm} {σ' : St} {m' : Nm} {trk' frz' : Led} (r : Re G Φ own σ h m trk frz) (r' : Re G Φ' (m.cel ++ own) σ' h' m' trk' frz') (F : Fr Φ.h₀ Φ.L h' m.fn) (N : News Φ.h₀ Φ.L h' (trk' ++ (frz' ++ (m.cel ++ own))))
    (hp : trk.map (·.1) <+: trk'.map (·.1)) (hf : ∀ q ∈ frz, q ∈ frz') : Re G Φ own ⟨σ'.hp, σ'.hw, σ.lo⟩ h' m trk' frz' := by
  refine ⟨F, N, ?_, r'.hp, r'.bd, r'.hw, fun i v e => ?_, r.ca⟩
  · exact r'.nd.sublist (((List.Sublist.refl _).append ((List.Sublist.refl _).append (List.sublist_append_right _ _))).map _)
  · obtain ⟨x, v', a, b, q⟩ := r.lo i v e
    exact ⟨x, v', a, b, q.mono hp hf⟩

/-- one object kept behind a cut -/
theorem Re.pick {n j : Nat} {o : AO} (r : Re G Φ own σ h m trk frz) (h2 : σ.hw ≤ n) (h3 : obds σ.lo ≤ n) (hj : n ≤ j) (hn : n ≤ σ.hp.length) (e : σ.hp[j]? = some o) (hb : o.bd ≤ n) :
    ∃ p, trk[j]? = some p ∧ Re G Φ own { σ with hp := σ.hp.take n ++ [o] } h m (trk.take n ++ [p]) frz := by
  obtain ⟨p, hp, ho⟩ := r.hp.get e
  have rc := r.cut h2 h3
  refine ⟨p, hp, r.F, newsSub r.N fun q hq => ?_, ?_, ?_, fun k a q => ?_, ?_, fun i v q => ?_, r.ca⟩
  · rcases List.mem_append.mp hq with hq | hq
    · rcases List.mem_append.mp hq with hq | hq
      · exact List.mem_append_left _ (List.mem_of_mem_take hq)
      · rw [List.mem_singleton.mp hq]; exact List.mem_append_left _ (List.mem_of_getElem? hp)
    · exact List.mem_append_right _ hq
  · refine List.Nodup.sublist ?_ r.nd
    refine List.Sublist.map _ (List.Sublist.append ?_ (List.Sublist.refl _))
    have hs : [p].Sublist (trk.drop n) := by
      rw [List.singleton_sublist]
      refine List.mem_of_getElem? (i := j - n) ?_
      rw [List.getElem?_drop]
      have : n + (j - n) = j := by omega
      rw [this]; exact hp
    have := (List.Sublist.refl (trk.take n)).append hs
    rwa [List.take_append_drop] at this
  · have hι : (trk.take n).map (·.1) <+: (trk.take n ++ [p]).map (·.1) := ⟨[p.1], by simp⟩
    refine All2.append (rc.hp.mono fun a b q => q.mono hι fun _ h => h) (.cons ?_ .nil)
    have := ho.take hb
    rw [← List.map_take] at this
    exact this.mono hι fun _ h => h
  · dsimp only at q ⊢
    rw [List.getElem?_append] at q
    split at q
    · exact rc.bd k a q
    · rename_i hk
      have : a = o := by
        cases z : k - (List.take n σ.hp).length with
        | zero => rw [z] at q; cases q; rfl
        | succ n => rw [z] at q; cases q
      subst this
      have hl : (List.take n σ.hp).length = n := by simp; omega
      exact Nat.le_trans hb (Nat.le_trans (by omega) (Nat.le_max_left _ _))
  · have := rc.hw
    simp only [List.length_append] at *
    omega
  · obtain ⟨x, v', a, b, c⟩ := rc.lo i v q
    exact ⟨x, v', a, b, c.mono ⟨[p.1], by simp⟩ fun _ h => h⟩
end
end Mine
namespace Mine
open PySem PySem.W PyProof.Rows PySem.Calls PySem.SeqAt

section
variable {M : Model} {A A' : Around} {env : Env} {outer : List Env} {L e : Addr} {B : Heap} {cls : Value} {dct : Option Addr} {E E' : Value → Shared → Prop} {s : Shared}
theorem note_x {Q : Unit → Shared → Prop} (hA : A.frames = some (env :: outer)) (hf : env.frame = some L) (st : B.StaysIn s.heap) (ff : s.heap.FunFrames B (env :: outer)) (ob : ExA s.heap B e cls dct L)
    (hQ : ∀ h', B.StaysIn h' → h'.FunFrames B (env :: outer) → TrD h' B e cls dct (rawInt L) → s.heap.UpToSlots h' → Q () { s with heap := h' }) : wpAny M A (noteFrame (.ref e) env) Q E s := by
  obtain ⟨hn, h1 | h1 | h1⟩ := ob
  · obtain ⟨oe, vs, he, rfl, rfl, hd, h1⟩ := h1
    unfold noteFrame
    simp only [hf]
    refine wpAny_bind (wpAny_field he hd h1 ?_)
    rw [if_neg (by decide)]
    exact trd_entry hA ff hf he st hn hd (Array.getElem?_eq_some_iff.mp h1).1 hQ
  · exact trd_on hA ff hf h1 st hn hQ
  · exact trd_again hf h1 (hQ s.heap st ff h1 (.refl _))
theorem came_x (hf : env.frame = some L) (h1 : TrD s.heap B e cls dct (rawInt L)) (hE : E (.ref e) s) : cameBackBy M A env E (.ref e) s := by
  obtain ⟨oe, vs, T, oT, ts, he, hc, hd, hv, hnT, hTe, hT, hdT, h3⟩ := h1
  unfold cameBackBy
  refine wpAny_bind (wpAny_field he hd hv ?_)
  rw [if_neg (show ¬ ((Value.ref T == Value.none) = true) from by simp)]
  rw [hf]
  have step : wpAny M A (setFlight (.ref e) (some L)) (fun _ s'' => E (.ref e) s'') E s := by
    unfold setFlight
    refine wpAny_bind (wpAny_field he hd hv ?_)
    rw [if_pos (show (Value.ref T != Value.none) = true from by simp)]
    show wpAny M A (setField (.ref T) 3 (rawInt L)) _ _ s
    refine wpAny_setField hT hdT (Array.getElem?_eq_some_iff.mp h3).1 ?_
    rw [Heap.update_setField_same s.heap T oT ts 3 (rawInt L) hT hdT h3]
    exact hE
  first | exact wpAny_bind (wpAny_pure step) | exact step

variable {Φ : Fm} {led led' : Led} {x : Exn} {hr : Heap}
theorem XAt.sub (X : XAt Φ led x e dct hr B s.heap) (h : ∀ q ∈ led', q ∈ led) : XAt Φ led' x e dct hr B s.heap := ⟨fun q hq => X.led q (h q hq), X.kp, X.st, X.ff, X.up, X.ob⟩
theorem XAt.pass (X : XAt Φ led x e dct hr B s.heap) (hA : A.frames = some (Φ.fenv :: Φ.outer)) (hE : ∀ h', XAt Φ led x e dct hr B h' → E (.ref e) { s with heap := h' }) : notedBy M A Φ.fenv (fun e s' => cameBackBy M A' Φ.fenv E e s') (.ref e) s := by
  unfold notedBy
  exact note_x hA rfl X.st X.ff X.ob fun h' k1 k2 k3 k4 => came_x rfl k3 (hE h' ⟨X.led, X.kp, k1, k2, X.up.trans k4, X.ob.1, .inr (.inr k3)⟩)
theorem XAt.leave {Q : Unit → Shared → Prop} (X : XAt Φ led x e dct hr B s.heap) (hA : A.frames = some (Φ.fenv :: Φ.outer))
    (hQ : ∀ h', B.StaysIn h' → h'.FunFrames B Φ.outer → TrD h' B e (.ref x.C) dct .none → hr.UpToSlots h' → Q () { s with heap := h' }) : wpAny M A (leaving Φ.fenv (.ref e)) Q E s := by
  unfold leaving
  refine wpAny_bind (note_x hA rfl X.st X.ff X.ob fun h' k1 k2 k3 k4 => ?_)
  exact trd_none k1 k2 k3 fun h'' j1 j2 j3 j4 => hQ h'' j1 j2.2.2 j3 ((X.up.trans k4).trans j4)
end

section
variable {G : Gl} {Φ : Fm} {d : Nat} {own : Led} {σ : St} {h h' : Heap} {m : Nm} {trk frz : Led} {s : Shared} {E : Value → Shared → Prop}
theorem PostS.passes {fb : Nat} {o : Out Fl} {Q : Flow → Shared → Prop} (ok : FmOk G Φ d) (hc : Φ.cm = false) (h : PostS G Φ own fb trk frz s o Q E) :
    PostS G Φ own fb trk frz s o Q (notedBy (model G.prog G.w) Φ.A Φ.env fun e s' => cameBackBy (model G.prog G.w) Φ.A Φ.env E e s') := by
  cases o with
  | ok a σ => exact h
  | exc x σ =>
    rintro e h' tk' m' trk' frz' ⟨hr, B, dct, r, X, fl⟩ p q
    rw [(ok.fe hc).1]
    exact XAt.pass (s := { s with heap := h', toks := tk' }) X (Around.frames_deeper ok.B.stack) fun h'' X' => h e h'' tk' m' trk' frz' ⟨hr, B, dct, r, X', fl⟩ p q
  | stuck => exact h
theorem Post.passes {α β : Type} {R : List Addr → Led → α → β → Prop} {o : Out α} {Q : β → Shared → Prop} (ok : FmOk G Φ d) (hc : Φ.cm = false) (h : Post R G Φ own m trk frz s o Q E) :
    Post R G Φ own m trk frz s o Q (notedBy (model G.prog G.w) Φ.A Φ.env fun e s' => cameBackBy (model G.prog G.w) Φ.A Φ.env E e s') := by
  cases o with
  | ok a σ => exact h
  | exc x σ =>
    rintro e h' tk' m' trk' frz' ⟨hr, B, dct, r, X, fl⟩ p q
    rw [(ok.fe hc).1]
    exact XAt.pass (s := { s with heap := h', toks := tk' }) X (Around.frames_deeper ok.B.stack) fun h'' X' => h e h'' tk' m' trk' frz' ⟨hr, B, dct, r, X', fl⟩ p q
  | stuck => exact h

/-- a new exception -/
theorem XCore.made {C : Nat} {e : Addr} {args : List Value} (ok : FmOk G Φ d) (r : Re G Φ own σ h m trk frz) (hm : Heap.MadeExcOf h h' e (.ref C) args) : XCore G Φ own ⟨C, [], []⟩ σ m trk frz e h' := by
  have hL : ∀ b o, Φ.h₀.get? b = some o → b ≠ Φ.L := fun b o hb q => absurd (Nat.lt_of_lt_of_le (Heap.lt_size hb) r.F.above) (q ▸ Nat.lt_irrefl _)
  have hbase : Φ.base.get? Φ.L = none := by
    cases hq : Φ.base.get? Φ.L with
    | none => rfl
    | some o => exact absurd rfl (hL _ o (ok.B.stays _ o hq))
  have ff : h.FunFrames Φ.base (Φ.fenv :: Φ.outer) := .cons (by show Φ.scope.kind ≠ .module; rw [ok.fn]; decide) rfl r.F.ns hbase (ok.B.frames.of_keeps fun b o e _ => ⟨o, r.F.keep b o e, rfl⟩)
  have hin : ∀ env ∈ Φ.fenv :: Φ.outer, ∀ a, env.frame = some a → a ∈ (Φ.fenv :: Φ.outer).filterMap (·.frame) := fun env he b hb => List.mem_filterMap.mpr ⟨env, he, hb⟩
  have mem : ∀ b, b ∈ (Φ.fenv :: Φ.outer).filterMap (·.frame) → b = Φ.L ∨ b ∈ Φ.outer.filterMap (·.frame) := fun b hb => List.mem_cons.mp (show b ∈ Φ.L :: Φ.outer.filterMap (·.frame) from hb)
  obtain ⟨t, ht, _, _⟩ := hm.there
  refine ⟨h, hideAll h ((Φ.fenv :: Φ.outer).filterMap (·.frame)), none, r, ⟨fun q hq => hideAll_get _ (r.N q hq).1 fun hb => ?_, fun b o hb hn => hideAll_get _ (r.F.keep b o hb) fun hq => ?_, fun b o q => hm.keeps b o (of_hideAll _ q), ?_, Heap.UpToSlots.of_keeps hm.keeps, ?_, .inl ⟨_, _, ht, rfl, rfl, rfl, rfl⟩⟩, .inl rfl⟩
  · rcases mem _ hb with e | e
    · exact (r.N q hq).2.1 e
    · obtain ⟨_, o, ho, _⟩ := ok.B.frames.mem e
      rw [(r.N q hq).2.2] at ho; cases ho
  · rcases mem _ hq with e | e
    · exact hL b o hb e
    · exact hn e
  · exact (funFrames_hide ff hin).of_keeps fun b o e _ => ⟨o, hm.keeps b o e, rfl⟩
  · cases q : (hideAll h ((Φ.fenv :: Φ.outer).filterMap (·.frame))).get? e with
    | none => rfl
    | some o => have := of_hideAll _ q; rw [hm.new] at this; cases this

/-- it lands in a top frame -/
theorem Re.land {dct : Option Addr} {hr B h₂ : Heap} {x : Exn} {e : Addr} {h₁ : Heap} (ok : FmOk G Φ d) (ht : Φ.top = true) (r : Re G Φ own σ hr m trk frz) (X : XAt Φ (trk ++ (frz ++ (m.cel ++ own))) x e dct hr B h₁) (j1 : B.StaysIn h₂) (up : hr.UpToSlots h₂) : Re G Φ own σ h₂ m trk frz :=
  ⟨r.F.of_stays (fun b o e => j1 b o (X.kp b o e (by rw [ok.tp ht]; simp))) up, fun q hq => ⟨j1 _ _ (X.led q hq), (r.N q hq).2⟩, r.nd, r.hp, r.bd, r.hw, r.lo, r.ca⟩
end
end Mine
namespace Mine
open PySem PySem.W PyProof.Rows PySem.Calls PySem.SeqAt

section
variable {G : Gl} {Φ : Fm} {d : Nat} {own : Led} {σ : St} {h h' : Heap} {m : Nm} {trk frz : Led} {s : Shared} {E : Value → Shared → Prop}

theorem bleFalse {a b : Nat} (h : Nat.ble a b = false) : b < a := by
  apply Nat.lt_of_not_le
  intro q
  rw [Nat.ble_eq_true_of_le q] at h; cases h
theorem take_prefix {l r : List Addr} (h : l <+: r) : r.take l.length = l := by
  obtain ⟨t, rfl⟩ := h
  simp

theorem ret_post {Φ' : Fm} {σ' : St} {m' : Nm} {trk' frz' : Led} {v : AV} {v' : Value} {Q : Value → Shared → Prop} {tk : Nat} (r : Re G Φ own σ s.heap m trk frz) (r' : Re G Φ' (m.cel ++ own) σ' h' m' trk' frz') (F : Fr Φ.h₀ Φ.L h' m.fn) (N : News Φ.h₀ Φ.L h' (trk' ++ (frz' ++ (m.cel ++ own))))
    (hp : trk.map (·.1) <+: trk'.map (·.1)) (hf : ∀ q ∈ frz, q ∈ frz') (hv : VR G (trk'.map (·.1)) frz' v v') (p : Post (VR G) G Φ own m trk frz s (retSt σ.hp.length σ.lo v σ') Q E) : Q v' { s with heap := h', toks := tk } := by
  have rb := r.back r' F N hp hf
  have hcut : (trk'.take σ.hp.length).map (·.1) = trk.map (·.1) := by
    rw [List.map_take, r.len]
    have := take_prefix hp
    rwa [List.length_map] at this
  have hle : σ.hp.length ≤ σ'.hp.length := by
    have := hp.length_le
    simp only [List.length_map] at this
    rw [r.len, r'.len]; exact this
  unfold retSt at p
  split at p
  · exact p v' h' tk trk' frz' rb hp hf hv
  · rename_i hw
    have hw := Nat.le_of_ble_eq_true hw
    have rc := rb.cut (n := σ.hp.length) hw r.loBd
    have pre : trk.map (·.1) <+: (trk'.take σ.hp.length).map (·.1) := by rw [hcut]; exact List.prefix_refl _
    split at p
    · rename_i hj
      have hv' := hv.take (n := σ.hp.length) (Nat.le_of_ble_eq_true hj)
      rw [← List.map_take] at hv'
      exact p v' h' tk _ frz' rc pre hf hv'
    · rename_i hj
      have hj := bleFalse hj
      split at p
      · rename_i j
        split at p
        · rename_i o ho
          split at p
          · rename_i hb
            have hb := Nat.le_of_ble_eq_true hb
            obtain ⟨q, hq, rk⟩ := rb.pick (n := σ.hp.length) hw r.loBd (Nat.le_of_lt_succ hj) hle ho hb
            refine p v' h' tk _ frz' rk ?_ hf ?_
            · rw [List.map_append, hcut]; exact ⟨[q.1], rfl⟩
            · cases hv with | obj hv =>
                rw [List.getElem?_map, hq] at hv
                cases hv
                refine .obj ?_
                rw [List.map_append, hcut, List.getElem?_append_right (by rw [List.length_map, r.len]; exact Nat.le_refl _)]
                simp [r.len]
          · exact p v' h' tk trk' frz' rb hp hf hv
        · exact p.elim
      · exact p v' h' tk trk' frz' rb hp hf hv

theorem news_up {g hr : Heap} {L' : Addr} {m' : Str → Option Value} {led : Led} {m₀ : Str → Option Value} (FG : Fr Φ.h₀ Φ.L g m₀) (N' : News g L' hr led) : News Φ.h₀ Φ.L hr led := fun q hq => by
  obtain ⟨h1, h2, h3⟩ := N' q hq
  refine ⟨h1, fun e => ?_, ?_⟩
  · obtain ⟨o, _, _, ho, _⟩ := FG.ns
    rw [e, ho] at h3; cases h3
  · cases h4 : Φ.h₀.get? q.1 with
    | none => rfl
    | some o => rw [FG.keep _ _ h4] at h3; cases h3
/-- an exception behind a call -/
theorem XCore.back {Φ' : Fm} {σ' : St} {m' : Nm} {trk' frz' : Led} {x : Exn} {e : Addr} {hr B h₁ h'' : Heap} {dct : Option Addr} (r : Re G Φ own σ h m trk frz) (r' : Re G Φ' (m.cel ++ own) σ' hr m' trk' frz') (X : XAt Φ' (trk' ++ (frz' ++ (m'.cel ++ (m.cel ++ own)))) x e dct hr B h₁) (fl : FldX G x dct B)
    (ho : Φ'.outer = Φ.fenv :: Φ.outer) (FG : Fr Φ.h₀ Φ.L Φ'.h₀ m.fn) (hp : trk.map (·.1) <+: trk'.map (·.1)) (hf : ∀ q ∈ frz, q ∈ frz')
    (j1 : B.StaysIn h'') (j2 : h''.FunFrames B Φ'.outer) (j3 : TrD h'' B e (.ref x.C) dct .none) (j4 : hr.UpToSlots h'') : XCore G Φ own x ⟨σ'.hp, σ'.hw, σ.lo⟩ m trk' frz' e h'' := by
  have sub : ∀ q ∈ trk' ++ (frz' ++ (m.cel ++ own)), q ∈ trk' ++ (frz' ++ (m'.cel ++ (m.cel ++ own))) := fun q hq => by
    simp only [List.mem_append] at hq ⊢
    rcases hq with hq | hq | hq | hq <;> simp [hq]
  have F : Fr Φ.h₀ Φ.L hr m.fn := ⟨FG.ns.keeps r'.F.keep, fun b o e => r'.F.keep _ _ (FG.keep b o e), FG.above⟩
  refine ⟨hr, B, dct, r.back r' F (news_up (m' := m'.fn) FG (newsSub r'.N sub)) hp hf, ⟨fun q hq => X.led q (sub q hq), fun b o hb hn => X.kp b o (FG.keep b o hb) ?_, j1, ho ▸ j2, j4, X.ob.1, .inr (.inl j3)⟩, fl⟩
  rw [ho]
  intro hm
  rcases List.mem_cons.mp (show b ∈ Φ.L :: Φ.outer.filterMap (·.frame) from hm) with e | e
  · exact absurd (Nat.lt_of_lt_of_le (Heap.lt_size hb) FG.above) (e ▸ Nat.lt_irrefl _)
  · exact hn e

theorem exc_back {Φ' : Fm} {σ' : St} {m' : Nm} {trk' frz' : Led} {x : Exn} {e : Addr} {dct : Option Addr} {hr B h₁ : Heap} {A : Around} {tk' : Nat} {R : Result → Shared → Prop} (r : Re G Φ own σ s.heap m trk frz) (r' : Re G Φ' (m.cel ++ own) σ' hr m' trk' frz') (X : XAt Φ' (trk' ++ (frz' ++ (m'.cel ++ (m.cel ++ own)))) x e dct hr B h₁) (fl : FldX G x dct B)
    (hA : A.frames = some (Φ.fenv :: Φ.outer)) (ho : Φ'.outer = Φ.fenv :: Φ.outer) (FG : Fr Φ.h₀ Φ.L Φ'.h₀ m.fn) (hp : trk.map (·.1) <+: trk'.map (·.1)) (hf : ∀ q ∈ frz, q ∈ frz')
    (p : Post (VR G) G Φ own m trk frz s (.exc x ⟨σ'.hp, σ'.hw, σ.lo⟩) (fun v s' => R (.ok (.ret v)) s') (fun e s' => R (.error e) s')) :
    wpAny (model G.prog G.w) (A.deeper Φ'.fenv) (leaving Φ'.fenv (.ref e)) (fun _ s'' => R (.error (.ref e)) s'') (fun e' s'' => R (.error e') s'') { s with heap := h₁, toks := tk' } :=
  XAt.leave (s := { s with heap := h₁, toks := tk' }) X (by rw [ho]; exact Around.frames_deeper hA) fun h'' j1 j2 j3 j4 => p e h'' tk' m trk' frz' (XCore.back r r' X fl ho FG hp hf j1 j2 j3 j4) hp hf

theorem scall_step {P : Prg} {ih : Nat → Ev} (hfn : FnsOk G P) (hs : ∀ Φ, FmOk G Φ d → ∀ l xs, Cts (Φ.cc G) l xs → SSts G Φ l (fun fb => (ih d).sts fb xs)) : SCl G (d + 1) (callStep P ih (d + 1)) := by
  intro Φ d₀ A ok hA hdp hun hh f vs vs' own σ s m trk frz R r hv p
  rw [callStep] at p
  split at p
  · exact p.elim
  · rename_i fd hfd
    obtain ⟨W, w⟩ := hfn f fd hfd
    split at p
    · exact p.elim
    · rename_i hlen
      have hlen := Nat.eq_of_beq_eq_true hlen
      have hlen' : vs'.length = fd.npar := by rw [← hv.length]; exact hlen
      have hsc : ∀ n x, W.scope.names.lookup x = some .cell → ∃ a, (cellsFrom n W.scope.names []).lookup x = some a := fun n x hx => Option.isSome_iff_exists.mp (cellsFrom_some _ _ _ (.inl hx))
      refine code_defC ok.B r.F ok.X r.N ok.T hA rfl ok.fn w.at_ w.code (by omega) (BindsTo.of_eq (w.bind vs' hlen')) ?_ w.cnd (fun g L' h₁ tk cells FG F' N' Y B' X' T' hlt => ?_) w.co w.gen w.kind
      · rw [List.all_eq_true]
        intro y hy
        have := w.kn y.1 (List.mem_of_mem_take (List.of_mem_zip hy).1)
        rcases this with e | e <;> rw [e] <;> rfl
      · have ok' : FmOk G ⟨A, Φ.base, g, Φ.fenv :: Φ.outer, L', f, W.qual, W.scope, W.cdv, cellsFrom (L' + 1) W.scope.names [], envOfC W.qual W.scope L' f W.cdv, L', plOf W.scope (cellsFrom (L' + 1) W.scope.names []) W.ns, W.ns, [], false, false⟩ d :=
          ⟨B', X', T', fun b o e => FG.keep b o (ok.kb b o e), ok.Kb, w.kind, by show A.depth + 1 + d < _; omega, by show A.units + 3 + 20 * (d + 1) < _; omega, hh,
            plOf_nodup (cellsFrom_addr W.scope.names (L' + 1) [] List.nodup_nil (fun _ h => by cases h)).1 w.nd (fun x hx => (w.kn x hx).imp id fun e => ⟨e, cellsFrom_some _ _ _ (.inl e)⟩), ok.na,
            w.kind, rfl, rfl, fun i x _ hx hl => ⟨rfl, plOf_loc hx hl⟩, fun i x hx hl => let ⟨a, ha⟩ := hsc (L' + 1) x hl; ⟨a, ha, plOf_cell hx hl ha⟩, fun _ _ h _ _ => (by cases h), fun _ => ⟨rfl, rfl, by simp [plOf], plOf_cmp⟩, fun h => (by cases h)⟩
        have r₁ := r.enter (Φ' := ⟨A, Φ.base, g, Φ.fenv :: Φ.outer, L', f, W.qual, W.scope, W.cdv, cellsFrom (L' + 1) W.scope.names [], envOfC W.qual W.scope L' f W.cdv, L', plOf W.scope (cellsFrom (L' + 1) W.scope.names []) W.ns, W.ns, [], false, false⟩) hv hlen (fd.nloc - fd.npar) w.nd w.par w.kn rfl rfl F' N' Y hlt
        refine hs _ ok' W.body fd.body w.cts σ.hp.length (m.cel ++ own) _ _ _ trk frz _ _ r₁ (by rw [r.len]; exact Nat.le_refl _) ?_
        dsimp only
        revert p
        generalize (ih d).sts σ.hp.length fd.body ⟨σ.hp, σ.hw, vs.map some ++ List.replicate (fd.nloc - fd.npar) none⟩ = o
        intro p
        cases o with
        | ok fl σ' =>
          intro fl' h' tk' m' trk' frz' r' hp hf hfl
          have hp' : trk.map (·.1) <+: trk'.map (·.1) := by rw [← bd_take_self (n := 0) r]; exact hp
          refine ⟨L', m'.fn, trk' ++ (frz' ++ (m.cel ++ own)), r'.F, newsSub r'.N (fun q hq => ?_), fun F N => ?_⟩
          · simp only [List.mem_append] at hq ⊢
            rcases hq with hq | hq | hq | hq <;> simp [hq]
          refine ret_post (s := s) (v := flVal fl) r r' F N hp' hf ?_ p
          cases hfl with
          | ret hv => exact hv
          | _ => exact .p .none
        | exc x σ' =>
          rintro e h' tk' m' trk' frz' ⟨hr, B, dct, r', X, fl⟩ hp hf
          have hp' : trk.map (·.1) <+: trk'.map (·.1) := by rw [← bd_take_self (n := 0) r]; exact hp
          exact exc_back r r' X fl hA rfl FG hp' hf p
        | stuck => exact p.elim


noncomputable def noStars (l : List Expr) : Bool := l.all noStar
theorem nostar {args : List Expr} (hc : noStars args = true) (pos : Pos) (env : Env) : (backTo pos (starEach args env)).any (·.1) = false := by
  induction args with
  | nil => rfl
  | cons a args ih =>
    unfold noStars at hc
    rw [List.all_cons, Bool.and_eq_true] at hc
    rw [noStar_eq hc.1]
    show (false || (backTo pos (starEach args env)).any (·.1)) = false
    rw [ih hc.2]; rfl
theorem args_of {M : Model} {A : Around} {args : List Expr} (hc : noStars args = true) {pos : Pos} {env : Env} {f : Value} {Q : Args → Shared → Prop} (h : wpAny M A (spliced (backTo pos (starEach args env))) (fun vs s' => Q ⟨vs, []⟩ s') E s) :
    wpAny M A (evalArgs f true (backTo pos (starEach args env)) []) Q E s := by
  cases args with
  | nil =>
    unfold evalArgs
    show wpAny M A (spliced [] >>= _) Q E s
    refine wpAny_bind (wpAny_mono h (fun vs s' h' => wpAny_bind (wpAny_pure ?_)) fun _ _ x => x)
    refine wpAny_holding ?_
    exact wpAny_bind (wpAny_pure (wpAny_bind (wpAny_pure (wpAny_pure h'))))
  | cons a args =>
    unfold noStars at hc
    rw [List.all_cons, Bool.and_eq_true] at hc
    rw [noStar_eq hc.1] at h ⊢
    exact evalArgs_plain h

theorem sx_callf {x : Str} {fp pos : Pos} {args : List Expr} {f : Nat} {rl : St → Out (List AV)} {rc : Nat → List AV → St → Out AV} (ok : FmOk G Φ d) (hk : Φ.env.scope.names.lookup x = some .globalImplicit) (hd : (x == ("__debug__" : Str)) = false) (hv : nsIn G.K mainGlobals x = some (some (.ref f))) (hkp : keepIn G.K (.ref f) = true)
    (hc : noStars args = true) (hl : SExs G Φ args rl) (hr : SCl G d rc) : SEx G Φ (.Call (.Name x fp) args [] pos) (fun σ => (rl σ).bind fun vs σ => rc f vs σ) := by
  intro own σ s m trk frz Q E r p
  show wpAny _ _ (eval (.Name x fp) Φ.env >>= fun g => callWith pos g [] (backTo pos (starEach args Φ.env)) []) Q E s
  refine wpAny_bind (name_G ok r hk hd hv ?_)
  have dp := ok.dp
  have un := ok.un
  refine callWith_of (P := fun h => G.K.In h) (by rw [nostar hc]; rfl) (keeps_K hkp) (args_of hc (hl pos own σ s m trk frz _ E r (p.bind fun vs σ₁ vs' h₁ tk₁ trk₁ frz₁ _ r₁ e₁ f₁ v₁ p₁ => ⟨ok.X.keeps r₁.F.keep, ?_⟩)))
  refine wpAny_call (hr Φ d Φ.A ok (Around.frames_deeper ok.B.stack) dp (by show Φ.A₀.units + 3 + 20 * (d + 1) < _; exact un) ok.hd f vs vs' own σ₁ _ m trk₁ frz₁ _ r₁ v₁ ?_)
  revert p₁
  generalize rc f vs σ₁ = o
  intro p₁
  cases o with
  | ok a σ' => exact p₁
  | exc a σ' => exact p₁
  | stuck => exact p₁
end
end Mine
namespace Mine
open PySem PySem.W PyProof.Rows PySem.Calls PySem.SeqAt

section
variable {G : Gl} {Φ : Fm} {d : Nat} {own : Led} {σ : St} {h h' : Heap} {m : Nm} {trk frz : Led} {s : Shared} {E : Value → Shared → Prop}

noncomputable def SFn (G : Gl) (Φ : Fm) (v : Value) (first : List Value) (f : List AV → St → Out AV) : Prop := ∀ own σ s m trk frz Q E vs vs', Re G Φ own σ s.heap m trk frz → All2 (VR G (trk.map (·.1)) frz) vs vs' → Post (VR G) G Φ own m trk frz s (f vs σ) Q E → wpAny (model G.prog G.w) Φ.A (call v (first ++ vs')) Q E s

theorem keeps_plain {M : Model} {f : Value} (hf : ∀ a, f ≠ .ref a) (h : Heap) (_ : True) : ∃ k, (k = Keeper.frame ∨ k = Keeper.machine ∨ k = Keeper.boundFrame) ∧ Looks M h (keeperOf f) k := by
  refine ⟨.machine, .inr (.inl rfl), ?_⟩
  cases f <;> first | exact absurd rfl (hf _) | exact Looks.of_pure rfl

theorem bfv_ref {b : BF} {v : Value} (h : BFv b v = true) : ∀ a, v ≠ .ref a := by
  intro a e
  subst e
  cases b <;> cases h

theorem sx_bf {x : Str} {fp pos : Pos} {args : List Expr} {v : Value} {b : BF} {rl : St → Out (List AV)} (ok : FmOk G Φ d) (hk : Φ.env.scope.names.lookup x = some .globalImplicit) (hd : (x == ("__debug__" : Str)) = false) (hv : nsIn G.K mainGlobals x = some none) (hb : bootBuiltins x = some v) (hn : x ≠ "__name__") (hbv : BFv b v = true)
    (hc : noStars args = true) (hl : SExs G Φ args rl) (hr : SFn G Φ v [] (bfun b)) : SEx G Φ (.Call (.Name x fp) args [] pos) (fun σ => (rl σ).bind fun vs σ => bfun b vs σ) := by
  intro own σ s m trk frz Q E r p
  show wpAny _ _ (eval (.Name x fp) Φ.env >>= fun g => callWith pos g [] (backTo pos (starEach args Φ.env)) []) Q E s
  refine wpAny_bind (name_Bn ok r hk hd hv hb hn ?_)
  refine callWith_of (P := fun _ => True) (by rw [nostar hc]; rfl) (keeps_plain (bfv_ref hbv)) (args_of hc (hl pos own σ s m trk frz _ E r (p.bind fun vs σ₁ vs' h₁ tk₁ trk₁ frz₁ _ r₁ e₁ f₁ v₁ p₁ => ⟨trivial, ?_⟩)))
  exact hr own σ₁ _ m trk₁ frz₁ Q E vs vs' r₁ v₁ p₁

/-- a function of one value -/
theorem sf_one {v : Value} {first : List Value} {f : AV → St → Out AV} (h : ∀ own σ s m trk frz Q E x x', Re G Φ own σ s.heap m trk frz → VR G (trk.map (·.1)) frz x x' → Post (VR G) G Φ own m trk frz s (f x σ) Q E → wpAny (model G.prog G.w) Φ.A (call v (first ++ [x'])) Q E s) : SFn G Φ v first (fun1 f) := by
  intro own σ s m trk frz Q E vs vs' r hv p
  cases hv with
  | nil => exact p.elim
  | cons hx hv =>
    cases hv with
    | nil => exact h own σ s m trk frz Q E _ _ r hx p
    | cons _ _ => exact p.elim

theorem sf_len (ok : FmOk G Φ d) : SFn G Φ (.builtin "len") [] (fun1 bLen) := sf_one fun own σ s m trk frz Q E x x' r hx p => by
  unfold bLen at p
  split at p
  · rename_i l hl
    split at p
    · rename_i hn
      have hn := okLen_le hn
      rw [strOf_inv hl] at hx
      cases hx with | p hx => cases hx; exact PyProof.Rows.len_str (by rw [str_len]; omega) (by rw [str_len]; exact p.ret r (.p (.int _ _)))
    · exact p.elim
  · split at p
    · rename_i l hl
      split at p
      · rename_i hn
        have hn := okLen_le hn
        obtain ⟨a, ws, rfl, h1, h2⟩ := seq_at ok r hx hl
        have e := h1.length
        rcases h2 with h2 | h2
        · exact len_list h2 (by simp only [List.size_toArray]; omega) (by simp only [List.size_toArray]; rw [← e]; exact p.ret r (.p (.int _ _)))
        · exact len_tuple h2 (by simp only [List.size_toArray]; omega) (by simp only [List.size_toArray]; rw [← e]; exact p.ret r (.p (.int _ _)))
      · exact p.elim
    · exact p.elim

theorem sf_tuple (ok : FmOk G Φ d) : SFn G Φ (.type "tuple") [] (fun1 bTuple) := sf_one fun own σ s m trk frz Q E x x' r hx p => by
  unfold bTuple at p
  split at p
  · rename_i l hl
    split at p
    · rename_i ps hps
      split at p
      · rename_i hn
        have hn := okLen_le hn
        obtain ⟨a, ws, rfl, h1, h2⟩ := lst_at ok r hx hl
        have e := h1.length
        refine call_tuple_list h2 (fun h' hk => ?_) (by simp only [List.size_toArray]; rw [sizeLine_eq]; omega)
        have F' : Fr Φ.h₀ Φ.L h' m.fn := r.F.keeps hk
        have N' : News Φ.h₀ Φ.L h' (trk ++ (frz ++ (m.cel ++ own))) := fun p hp => ⟨hk _ _ (r.N p hp).1, (r.N p hp).2⟩
        have r₂ := r.pushF (F'.push { cls := .type "tuple", data := .seq ws.toArray }) (N'.push F' { cls := .type "tuple", data := .seq ws.toArray }) (fun p hp => Heap.lt_size (N' p hp).1)
        exact p _ _ _ trk _ r₂ (List.prefix_refl _) (fun _ q => .tail _ q) (.p (.tup (.inr (.head _)) rfl rfl ((pure_all2 h1 hps).mono fun _ q => .tail _ q)))
      · exact p.elim
    · exact p.elim
  · exact p.elim
theorem methodCall_of {a : Expr} {n : Str} {ap pos : Pos} {args : List Expr} {Q : Value → Shared → Prop} (hc : noStars args = true) (hb : abOk a = true) (hp : (ap.endLine == pos.line) = true) (hlen : Nat.blt args.length 29 = true)
    (h : wpAny (model G.prog G.w) Φ.A (eval a Φ.env) (fun ov s₁ => ∀ pl, wpAny (model G.prog G.w) Φ.A (getMethod ov n pl) (fun fx s₂ => wpAny (model G.prog G.w) Φ.A (callWith pos fx.1 fx.2 (backTo pos (starEach args Φ.env)) []) Q E s₂) E s₁) E s) :
    wpAny (model G.prog G.w) Φ.A (eval (.Call (.Attribute a n ap) args [] pos) Φ.env) Q E s := by
  show wpAny _ _ (attributeBase a n Φ.env (eval a Φ.env) >>= fun ov => standAt ap.atName >>= fun _ => methodCall a n ap pos Φ.env ov (args.length + ([] : List Keyword).length) (backTo pos (starEach args Φ.env)) (backToKw pos (keywordEach [] Φ.env))) Q E s
  rw [abOk_eq hb]
  have hlt : args.length < 29 := Nat.le_of_ble_eq_true hlen
  have few : methodCallForm (args.length + ([] : List Keyword).length) (backTo pos (starEach args Φ.env)) (backToKw pos (keywordEach [] Φ.env)) = true := by
    unfold methodCallForm
    have h1 : (backTo pos (starEach args Φ.env)).all (!·.1) = true := by
      have := nostar hc pos Φ.env
      rw [List.any_eq_false] at this
      rw [List.all_eq_true]
      intro x hx
      have := this x hx
      simpa using this
    rw [h1]
    simp only [List.length_nil, Nat.add_zero, Bool.true_and]
    have h2 : (backToKw pos (keywordEach [] Φ.env)) = [] := rfl
    rw [h2]
    simp only [List.all_nil, List.isEmpty_nil, if_true, Nat.add_zero, Bool.true_and]
    exact decide_eq_true (by omega)
  refine wpAny_bind (wpAny_mono h (fun ov s₁ h₁ => wpAny_bind (wpAny_standAt ?_)) fun _ _ x => x)
  unfold methodCall
  rw [few]
  refine wpAny_bind (wpAny_holding (wpAny_mono (h₁ _) (fun fx s₂ h₂ => ?_) fun _ _ x => x))
  have hpos : methodCallPos true a Φ.env ap pos = pure pos := by
    unfold methodCallPos
    rw [hp]; rfl
  obtain ⟨f, first⟩ := fx
  refine wpAny_bind (wpAny_of_eq hpos ?_)
  exact h₂
end
end Mine
namespace Mine
open PySem PySem.W PyProof.Rows PySem.Calls PySem.SeqAt

noncomputable def BM.id : BM → String
  | .append => "list.append"
  | .pop => "list.pop"
  | .sort => "list.sort"
  | .join => "str.join"
  | .startswith => "str.startswith"
  | .split => "str.split"
  | .rstrip => "str.rstrip"
  | .count => "str.count"
  | .rfind => "str.rfind"
  | .find => "str.find"

section
variable {G : Gl} {Φ : Fm} {d : Nat} {own : Led} {σ : St} {h h' : Heap} {m : Nm} {trk frz : Led} {s : Shared} {E : Value → Shared → Prop}

noncomputable def SMt (G : Gl) (Φ : Fm) (b : BM) (f : AV → List AV → St → Out AV) : Prop := ∀ own σ s m trk frz Q E x x' vs vs', Re G Φ own σ s.heap m trk frz → VR G (trk.map (·.1)) frz x x' → All2 (VR G (trk.map (·.1)) frz) vs vs' → Post (VR G) G Φ own m trk frz s (f x vs σ) Q E → wpAny (model G.prog G.w) Φ.A (call (.builtin b.id) ([x'] ++ vs')) Q E s

theorem bm_list {b : BM} (h : b.onList = true) : Slot "list" b.name b.id ∧ typeOf (.builtin b.id) = pure (.type "method_descriptor") := by
  cases b <;> first | cases h | skip
  · exact ⟨F.slot_list_append, F.type_list_append⟩
  · exact ⟨F.slot_list_pop, F.type_list_pop⟩
  · exact ⟨F.slot_list_sort, F.type_list_sort⟩
theorem bm_str {b : BM} (h : b.onList = false) : Slot "str" b.name b.id ∧ typeOf (.builtin b.id) = pure (.type "method_descriptor") := by
  cases b <;> first | cases h | skip
  · exact ⟨F.slot_str_join, F.type_str_join⟩
  · exact ⟨F.slot_str_split, F.type_str_split⟩
  · exact ⟨F.slot_str_startswith, F.type_str_startswith⟩
  · exact ⟨F.slot_str_rstrip, F.type_str_rstrip⟩
  · exact ⟨F.slot_str_count, F.type_str_count⟩
  · exact ⟨F.slot_str_rfind, F.type_str_rfind⟩
  · exact ⟨F.slot_str_find, F.type_str_find⟩

theorem sx_bm {a : Expr} {n : Str} {ap pos : Pos} {args : List Expr} {b : BM} {ra : St → Out AV} {rl : St → Out (List AV)} (ok : FmOk G Φ d) (hn : n = b.name) (hb : abOk a = true) (hp : (ap.endLine == pos.line) = true) (hlen : Nat.blt args.length 29 = true)
    (hc : noStars args = true) (ha : SEx G Φ a ra) (hl : SExs G Φ args rl) (hm : SMt G Φ b (bmeth b)) :
    SEx G Φ (.Call (.Attribute a n ap) args [] pos) (fun σ => (ra σ).bind fun x σ => (match recvOk b x σ with | true => (rl σ).bind fun vs σ => bmeth b x vs σ | false => .stuck)) := by
  intro own σ s m trk frz Q E r p
  subst hn
  refine methodCall_of hc hb hp hlen (ha own σ s m trk frz _ E r (p.bind fun x σ₁ x' h₁ tk₁ trk₁ frz₁ _ r₁ e₁ f₁ v₁ p₁ => ?_))
  intro pl
  split at p₁
  · rename_i hrec
    have rest : wpAny (model G.prog G.w) Φ.A (callWith pos (.builtin b.id) [x'] (backTo pos (starEach args Φ.env)) []) Q E { s with heap := h₁, toks := tk₁ } := by
      refine callWith_of (P := fun _ => True) (by rw [nostar hc]; rfl) (keeps_plain (fun a e => by cases e)) (args_of hc (hl pos own σ₁ _ m trk₁ frz₁ _ E r₁ (p₁.bind fun vs σ₂ vs' h₂ tk₂ trk₂ frz₂ _ r₂ e₂ f₂ v₂ p₂ => ⟨trivial, ?_⟩)))
      exact hm own σ₂ _ m trk₂ frz₂ Q E x x' vs vs' r₂ (v₁.mono e₂ f₂) v₂ p₂
    unfold recvOk at hrec
    split at hrec
    · rename_i l hl'
      obtain ⟨i, hx, hi⟩ := objOf_inv hl'
      rw [hx] at v₁
      obtain ⟨sl, ty⟩ := bm_list hrec
      cases v₁ with | obj hadr =>
        obtain ⟨o, ho, hr⟩ := r₁.obj hadr hi
        cases hr with
        | lst hr =>
          have hg := r₁.trkAt ho
          exact getMethod_builtin (T := "list") ⟨_, hg, rfl⟩ F.plainAttrs_list sl ty (fun a e => by cases e; exact ⟨_, hg, rfl⟩) rest
    · split at hrec
      · rename_i hx
        rw [strOf_inv hx] at v₁
        obtain ⟨sl, ty⟩ := bm_str (b := b) (by simpa using hrec)
        cases v₁ with | p v₁ =>
          cases v₁
          exact GM.of _ (typeIs_str _ _ _) sl ty GM.noRef rest
      · cases hrec
  · exact p₁.elim

theorem sm_obj {b : BM} {f : Nat → AV → St → Out AV} (h : ∀ own σ s m trk frz Q E i a y y', Re G Φ own σ s.heap m trk frz → (trk.map (·.1))[i]? = some a → VR G (trk.map (·.1)) frz y y' → Post (VR G) G Φ own m trk frz s (f i y σ) Q E → wpAny (model G.prog G.w) Φ.A (call (.builtin b.id) [.ref a, y']) Q E s) : SMt G Φ b (onObj f) := by
  intro own σ s m trk frz Q E x x' vs vs' r vx hv p
  cases vx with
  | obj ha =>
    cases hv with
    | nil => exact p.elim
    | cons hy hv =>
      cases hv with
      | nil => exact h own σ s m trk frz Q E _ _ _ _ r ha hy p
      | cons _ _ => exact p.elim
  | p _ => exact p.elim
  | ins _ _ => exact p.elim

theorem sm_append (ok : FmOk G Φ d) : SMt G Φ .append (onObj mAppend) := sm_obj fun own σ s m trk frz Q E i a y y' r hadr hy p => by
  unfold mAppend at p
  split at p
  · rename_i l hl
    have hl := lstAt_inv hl
    split at p
    · rename_i hn
      have hn := okLen_le hn
      obtain ⟨o, ho, hr⟩ := r.obj hadr hl
      cases hr with
      | lst hr =>
        rename_i ws n
        have hlen := hr.length
        refine append_K r.F r.N (upd_of (o' := listOf (ws.toArray.push y') (n + 1)) r.nd ho) (fun h' F' N' => ?_) (by simp only [List.size_toArray]; rw [sizeLine_eq]; omega)
        have hi : i < σ.hp.length := (List.getElem?_eq_some_iff.mp hl).1
        have hyb := hy.bd_le
        rw [List.length_map, ← r.len] at hyb
        have hbd := r.bd i _ hl
        have e1 : ws.toArray.push y' = (ws ++ [y']).toArray := by simp
        refine p .none h' s.toks (trk.set i (_, listOf (ws.toArray.push y') (n + 1))) frz (r.setT (ao := .lst (l ++ [y])) ho F' N' ?_ ?_ ?_ ?_) ?_ (fun _ q => q) (.p .none)
        · rw [e1]; exact .lst (hr.append (.cons hy .nil))
        · split
          · exact Nat.le_refl _
          · rename_i hz
            exact Nat.le_trans (Nat.le_max_right _ _) (Nat.le_of_lt (bleFalse hz))
        · split
          · exact r.hw
          · exact hyb
        · show bds (l ++ [y]) ≤ _
          rw [bds_le]
          intro v hv
          have hold : ∀ v ∈ l, v.bd ≤ Nat.max i σ.hw := fun v hv => Nat.le_trans (bds_le.mp (Nat.le_refl (bds l)) v hv) hbd
          split
          · rename_i hz
            have hz := Nat.le_of_ble_eq_true hz
            rcases List.mem_append.mp hv with hv | hv
            · exact hold v hv
            · rw [List.mem_singleton.mp hv]; exact hz
          · rename_i hz
            have := bleFalse hz
            rcases List.mem_append.mp hv with hv | hv
            · exact Nat.le_trans (hold v hv) (Nat.max_le.mpr ⟨Nat.le_max_left _ _, Nat.le_trans (Nat.le_max_right _ _) (Nat.le_trans (Nat.le_of_lt this) (Nat.le_max_right _ _))⟩)
            · rw [List.mem_singleton.mp hv]; exact Nat.le_max_right _ _
        · rw [set_keys ho]; exact List.prefix_refl _
    · exact p.elim
  · exact p.elim

theorem sm_str {b : BM} {f : Str → Str → PV} (h : ∀ own σ s m trk frz Q E x y t u, Re G Φ own σ s.heap m trk frz → Post (VR G) G Φ own m trk frz s (.ok (.p (f x y)) σ) Q E → wpAny (model G.prog G.w) Φ.A (call (.builtin b.id) [.str x t, .str y u]) Q E s) : SMt G Φ b (onStr f) := by
  intro own σ s m trk frz Q E x x' vs vs' r vx hv p
  unfold onStr at p
  split at p
  · rename_i l hx
    rw [strOf_inv hx] at vx
    cases vx with | p vx =>
    cases vx
    cases hv with
    | nil => exact p.elim
    | cons hy hv =>
      cases hv with
      | nil =>
        unfold fun1 at p
        dsimp only at p
        split at p
        · rename_i y hy'
          rw [strOf_inv hy'] at hy
          cases hy with | p hy => cases hy; exact h _ _ _ _ _ _ _ _ _ _ _ _ r p
        · exact p.elim
      | cons _ _ => exact p.elim
  · exact p.elim
theorem sm_count : SMt G Φ .count (onStr fun x y => .int (Txt.count x y)) := sm_str fun own σ s m trk frz Q E x y t u r p => SC.count (p.ret r (.p (.int _ _)))
theorem sm_rfind : SMt G Φ .rfind (onStr fun x y => .int (Txt.rfind x y)) := sm_str fun own σ s m trk frz Q E x y t u r p => SC.rfind (p.ret r (.p (.int _ _)))
theorem sm_find : SMt G Φ .find (onStr fun x y => .int (Txt.find x y)) := sm_str fun own σ s m trk frz Q E x y t u r p => SC.find (p.ret r (.p (.int _ _)))
theorem sm_startswith : SMt G Φ .startswith (onStr fun x y => .bool (Txt.startswith x y)) := sm_str fun own σ s m trk frz Q E x y t u r p => SC.startswith (p.ret0 r (.p (.bool _)))
theorem prel_str {an : List Str} {hb : Heap} {frz : Led} (y : Str) (t : Tok) : PRel an hb frz (.str y.cps.toList) (.str y t) := by
  have := PR.str (an := an) (hb := hb) (frz := frz) y.cps.toList t
  simpa using this

noncomputable def OR (G : Gl) : List Addr → Led → Option AV → Value → Prop := fun ι frz a b => match a with
  | none => b = .none
  | some v => VR G ι frz v b
noncomputable def SOp (G : Gl) (Φ : Fm) (e : Option Expr) (r : St → Out (Option AV)) : Prop := ∀ own σ s m trk frz Q E, Re G Φ own σ s.heap m trk frz → Post (OR G) G Φ own m trk frz s (r σ) Q E → wpAny (model G.prog G.w) Φ.A (valueOrNone (evalOpt e Φ.env)) Q E s
theorem so_none : SOp G Φ none (fun σ => .ok none σ) := fun own σ s m trk frz Q E r p => wpAny_pure (p.ret0 r rfl)
theorem so_some {e : Expr} {re : St → Out AV} (he : SEx G Φ e re) : SOp G Φ (some e) (fun σ => (re σ).bind fun v σ => .ok (some v) σ) := by
  intro own σ s m trk frz Q E r p
  exact he own σ s m trk frz Q E r (p.bind fun x σ₁ x' h₁ tk₁ trk₁ frz₁ _ r₁ e₁ f₁ v₁ p₁ => p₁.ret0 r₁ v₁)

theorem OR.mono {a : Option AV} {b : Value} {ι ι' : List Addr} {frz frz' : Led} (h : OR G ι frz a b) (hp : ι <+: ι') (hf : ∀ q ∈ frz, q ∈ frz') : OR G ι' frz' a b := by
  cases a with
  | none => exact h
  | some v => exact (show VR G ι frz v b from h).mono hp hf
theorem part_of {a : Option AV} {b : Value} {ι : List Addr} {frz : Led} {i : Option Int} (h : OR G ι frz a b) (e : partOf a = some i) : IsPart b i ∧ ∃ l : Option (Int × Tok), b = partValue l ∧ i = l.map (·.1) := by
  cases a with
  | none => cases e; cases (show b = .none from h); exact ⟨.none, none, rfl, rfl⟩
  | some v =>
    obtain ⟨k, hk, rfl⟩ := Option.map_eq_some_iff.mp (show (intOf v).map some = some i from e)
    have h : VR G ι frz v b := h
    rw [intOf_inv hk] at h
    cases h with | p h => cases h; rename_i t; exact ⟨.int _ t, some (_, t), rfl, rfl⟩

theorem txt_slice (l : List Nat) (a b : Option Int) : Txt.slice ⟨l.toArray⟩ a b = ⟨(sliL a b l).toArray⟩ := by
  have e : Builtin.Str.strSliceIndices a b 1 l.length = (List.range (b.elim l.length (clipAt l.length) - a.elim 0 (clipAt l.length))).map (a.elim 0 (clipAt l.length) + ·) := by
    rw [← sliceRange_one]
    unfold Builtin.Str.strSliceIndices
    cases a <;> cases b <;> simp [clipAt_cast]
  have e2 : ((Builtin.Str.strSliceIndices a b 1 l.length).filterMap ((⟨l.toArray⟩ : Str).cps[·]?)) = sliL a b l := by
    rw [e, pick_run]; rfl
  unfold Txt.slice
  rw [str_len, e2]
  split
  · rename_i h
    rw [e] at h
    simp only [List.length_map, List.length_range] at h
    have h : b.elim l.length (clipAt l.length) - a.elim 0 (clipAt l.length) = l.length := by simpa using h
    have hb : b.elim l.length (clipAt l.length) ≤ l.length := by
      cases b with
      | none => exact Nat.le_refl _
      | some b => have := clipAt_cast l.length b; show clipAt l.length b ≤ _; omega
    by_cases h0 : l.length = 0
    · have : l = [] := List.eq_nil_of_length_eq_zero h0
      subst this
      simp [sliL]
    · have ha : a.elim 0 (clipAt l.length) = 0 := by omega
      unfold sliL
      rw [ha, List.drop_zero, Nat.sub_zero, List.take_of_length_le (by omega)]
  · rfl

theorem sx_sli {a : Expr} {lo hi : Option Expr} {sp pos : Pos} {ra : St → Out AV} {rlo rhi : St → Out (Option AV)} (ok : FmOk G Φ d) (ha : SEx G Φ a ra) (hlo : SOp G Φ lo rlo) (hhi : SOp G Φ hi rhi) :
    SEx G Φ (.Subscript a (.Slice lo hi none sp) pos) (fun σ => (ra σ).bind fun x σ => (rlo σ).bind fun p σ => (rhi σ).bind fun q σ => sliV x p q σ) := by
  intro own σ s m trk frz Q E r p
  refine Subscript_ (ha own σ s m trk frz _ E r (p.bind fun x σ₁ x' h₁ tk₁ trk₁ frz₁ _ r₁ e₁ f₁ v₁ p₁ => ?_))
  rw [arm_eval_Slice]
  refine wpAny_bind (hlo own σ₁ _ m trk₁ frz₁ _ E r₁ (p₁.bind fun y σ₂ y' h₂ tk₂ trk₂ frz₂ _ r₂ e₂ f₂ v₂ p₂ => ?_))
  refine wpAny_bind (wpAny_holding (hhi own σ₂ _ m trk₂ frz₂ _ E r₂ (p₂.bind fun z σ₃ z' h₃ tk₃ trk₃ frz₃ _ r₃ e₃ f₃ v₃ p₃ => ?_)))
  refine wpAny_bind (wpAny_holding (wpAny_pure ?_))
  refine wpAny_newObj_type ?_
  have vx := (v₁.mono e₂ f₂).mono e₃ f₃
  have vy := v₂.mono e₃ f₃
  unfold sliV at p₃
  split at p₃
  · rename_i i j hi hj
    obtain ⟨q1, l1, rfl, rfl⟩ := part_of vy hi
    obtain ⟨q2, l2, rfl, rfl⟩ := part_of v₃ hj
    have r₄ := (r₃.pushO (o := { cls := .type "slice", data := .fields #[partValue l1, partValue l2, .none] })).drop
    split at p₃
    · rename_i l hx
      split at p₃
      · rename_i hn
        have hn := okLen_le hn
        rw [strOf_inv hx] at vx
        cases vx with | p vx =>
          cases vx
          refine tail_any (typeIs_str _ _ _) F.slot_str_getitem.lookup (wpAny_getItem_str_slice (l := l1) (u := l2) (st := none) ⟨_, Heap.get?_push_size _ rfl, rfl, rfl⟩ rfl (post_val_or_str ⟨Nat.le_trans (Txt.slice_le _ _ _) (by rw [str_len, sizeLine_eq]; omega), fun t' k => ?_⟩)) rfl
          have := txt_slice l (l1.map (·.1)) (l2.map (·.1))
          refine p₃ _ _ _ trk₃ frz₃ r₄ (List.prefix_refl _) (fun _ q => q) ?_
          show VR G _ _ _ (.str (Txt.slice ⟨l.toArray⟩ (l1.map (·.1)) (l2.map (·.1))) t')
          rw [this]
          exact .p (.str _ _)
      · exact p₃.elim
    · split at p₃
      · rename_i l hl
        split at p₃
        · rename_i hn
          have hn := okLen_le hn
          obtain ⟨ad, vs, rfl, hvs, hls⟩ := lst_at ok r₃ vx hl
          have hlen := hvs.length
          refine tail_any (Heap.IsList.typeIs (hls.push _)) slot_list_getitem.lookup (wpAny_getItem_list_slice (hls.push _) (Heap.IsSliceOf.new ..) q1 q2 .none (by simp) ?_ (by simp only [List.size_toArray]; rw [sizeLine_eq]; omega)) rfl
          have e : slicePick vs.toArray (l1.map (·.1)) (l2.map (·.1)) none = (sliL (l1.map (·.1)) (l2.map (·.1)) vs).toArray := by
            rw [slicePick_plain]; simp [sliL]
          rw [e]
          have hv2 : All2 (VR G (trk₃.map (·.1)) frz₃) (sliL (l1.map (·.1)) (l2.map (·.1)) l) (sliL (l1.map (·.1)) (l2.map (·.1)) vs) := by
            unfold sliL
            rw [hlen]
            exact (hvs.drop _).take _
          refine newLst_post (n := 0) (s := { s with heap := h₃.push _, toks := tk₃ }) r₄ hv2 (Post.later p₃ (List.prefix_refl _) fun _ q => q) (r₄.F.push _) (r₄.N.push r₄.F _) fun p hp => Heap.lt_size (r₄.N p hp).1
        · exact p₃.elim
      · exact p₃.elim
  · exact p₃.elim
end
end Mine
namespace Mine
open PySem PySem.W PyProof.Rows PySem.Calls PySem.SeqAt

section
variable {G : Gl} {Φ : Fm} {d : Nat} {own : Led} {σ : St} {h h' : Heap} {m : Nm} {trk frz : Led} {s : Shared} {E : Value → Shared → Prop}

theorem zip_snd (a : Array Value) : (a.zip a).map (·.2) = a := by
  apply Array.ext
  · simp
  · intro i h1 h2; simp
theorem sort_K {prog : Program} {w : World} {A : Around} {D L : Addr} {h₀ : Heap} {mm : Str → Option Value} {pre post : Led} {vs : List Value} {n : Nat} {Q : Value → Shared → Prop} (F₀ : Fr h₀ L s.heap mm) (N : News h₀ L s.heap (pre ++ (D, listOf vs.toArray n) :: post)) (x1 : ∀ p ∈ pre, p.1 ≠ D) (x2 : ∀ p ∈ post, p.1 ≠ D) (hs : vs.length < 2)
    (h : ∀ h' k, Fr h₀ L h' mm → News h₀ L h' (pre ++ (D, listOf vs.toArray k) :: post) → Q .none { s with heap := h' }) : wpAny (model prog w) A (call (.builtin "list.sort") [.ref D]) Q E s := by
  have z := N (D, listOf vs.toArray n) (List.mem_append.mpr (.inr (.head _)))
  have ho : s.heap.get? D = some (seqObj "list" vs.toArray n) := z.1
  have s1 := Heap.SameBut.update s.heap D (Obj.mapSeq fun _ => (#[] : Array Value))
  obtain ⟨c1, ho1⟩ : ∃ c1, (s.heap.update D (Obj.mapSeq fun _ => (#[] : Array Value))).get? D = some (seqObj "list" #[] c1) := ⟨_, get?_update_seq ho fun _ => #[]⟩
  have F1 := F₀.change s1 z.2.1 z.2.2
  have N1 := news_set N x1 x2 s1 ho1
  have F2 := (F1.push (seqObj "tuple" vs.toArray 0)).push (seqObj "list" #[] 0)
  have N2 := N1.grown fun b x e => Heap.get?_push_of_some (seqObj "list" #[] 0) (Heap.get?_push_of_some (seqObj "tuple" vs.toArray 0) e)
  have ho2 := (N2 (D, seqObj "list" #[] c1) (List.mem_append.mpr (.inr (.head _)))).1
  have s2 := Heap.SameBut.update (((s.heap.update D (Obj.mapSeq fun _ => (#[] : Array Value))).push (seqObj "tuple" vs.toArray 0)).push (seqObj "list" #[] 0)) D (Obj.mapSeq fun _ => vs.toArray)
  obtain ⟨c2, ho3⟩ : ∃ c2, ((((s.heap.update D (Obj.mapSeq fun _ => (#[] : Array Value))).push (seqObj "tuple" vs.toArray 0)).push (seqObj "list" #[] 0)).update D (Obj.mapSeq fun _ => vs.toArray)).get? D = some (seqObj "list" vs.toArray c2) := ⟨_, get?_update_seq ho2 fun _ => vs.toArray⟩
  have F3 := F2.change s2 z.2.1 z.2.2
  have N3 := news_set N2 x1 x2 s2 ho3
  refine wpAny_call_entry F.slot_list_sort ⟨_, z.1, rfl⟩ F.entry_list_sort ?_ (F.args_list_sort_1 _)
  rw [list_sort_plain]
  refine wpAny_bind (listItems_at ho rfl ?_)
  refine wpAny_bind (listUpdate_at ho rfl ?_ (by rw [List.size_toArray, sizeLine_eq]; omega) (Nat.zero_le _))
  refine wpAny_bind (seqEpoch_at ho1 rfl ?_)
  refine wpAny_bind (wpAny_newTuple ?_ (by show vs.length ≤ _; rw [sizeLine_eq]; omega))
  refine wpAny_bind (wpAny_newList ?_ (Nat.zero_le _))
  refine wpAny_holding ?_
  have hn2 : vs.toArray.size < 2 := by rw [List.size_toArray]; exact hs
  dsimp only
  rw [if_pos hn2, if_pos hn2]
  refine wpAny_bind (wpAny_pure (wpAny_bind (wpAny_pure ?_)))
  dsimp only
  have hz : (arrOf (SortSt.mk' general' (vs.toArray.zip vs.toArray) #[] 7 none)).map (·.2) = vs.toArray := zip_snd _
  refine wpAny_bind (seqEpoch_at ho2 rfl ?_)
  rw [hz]
  refine wpAny_bind (listUpdate_at ho2 rfl ?_ (Nat.zero_le _) (by rw [List.size_toArray, sizeLine_eq]; omega))
  simp only [bne_self_eq_false, Bool.false_eq_true, if_false]
  exact wpAny_pure ⟨_, rfl, h _ c2 F3 N3⟩

theorem split_at {D : Addr} {o : Obj} : ∀ {l : Led} {i : Nat}, l[i]? = some (D, o) → l = l.take i ++ (D, o) :: l.drop (i + 1) ∧ ∀ o', l.set i (D, o') = l.take i ++ (D, o') :: l.drop (i + 1)
  | [], i, h => by cases h
  | q :: r, 0, h => by cases h; exact ⟨rfl, fun _ => rfl⟩
  | q :: r, i + 1, h => by
    obtain ⟨a, b⟩ := split_at (l := r) (i := i) h
    refine ⟨?_, fun o' => ?_⟩
    · show q :: r = q :: (r.take i ++ _ :: r.drop (i + 1)); rw [← a]
    · show q :: r.set i _ = q :: (r.take i ++ _ :: r.drop (i + 1)); rw [b]
theorem sm_sort (ok : FmOk G Φ d) : SMt G Φ .sort mSort := by
  intro own σ s m trk frz Q E x x' vs vs' r vx hv p
  unfold mSort at p
  split at p
  · rename_i i
    cases vx with | obj ha =>
    rename_i D
    cases hv with
    | cons _ _ => exact p.elim
    | nil =>
      dsimp only at p
      cases hl : lstAt σ.hp[i]? with
      | none => rw [hl] at p; exact p.elim
      | some l =>
        rw [hl] at p; dsimp only at p
        have hl := lstAt_inv hl
        obtain ⟨o, ho, hr⟩ := r.obj ha hl
        cases hr with | lst hr =>
        rename_i ws n
        have hlen := hr.length
        obtain ⟨s1, s2⟩ := split_at ho
        have N := r.N
        have nd := r.nd
        rw [s1, List.append_assoc, List.cons_append] at N nd
        rw [List.map_append, List.map_cons, List.nodup_append, List.nodup_cons] at nd
        have x1 : ∀ q ∈ trk.take i, q.1 ≠ D := fun q hq e => nd.2.2 q.1 (List.mem_map_of_mem hq) D (.head _) e
        have x2 : ∀ q ∈ trk.drop (i + 1) ++ (frz ++ (m.cel ++ own)), q.1 ≠ D := fun q hq e => nd.2.1.1 (List.mem_map.mpr ⟨q, hq, e⟩)
        have fin : ∀ (l' : List AV) (ws' : List Value) h' k, All2 (VR G (trk.map (·.1)) frz) l' ws' → bds l' ≤ Nat.max i σ.hw → Fr Φ.h₀ Φ.L h' m.fn → News Φ.h₀ Φ.L h' (trk.take i ++ (D, listOf ws'.toArray k) :: (trk.drop (i + 1) ++ (frz ++ (m.cel ++ own)))) → Post (VR G) G Φ own m trk frz s (.ok (.p .none) { σ with hp := σ.hp.set i (.lst l') }) Q E → ∀ tk, Q .none { s with heap := h', toks := tk } := fun l' ws' h' k hr' hb F' N' p tk => by
          refine p .none h' tk (trk.set i (D, listOf ws'.toArray k)) frz (r.setT (ao := .lst l') ho F' ?_ (.lst hr') (Nat.le_refl _) r.hw hb) ?_ (fun _ q => q) (.p .none)
          · rw [s2, List.append_assoc, List.cons_append]; exact N'
          · rw [set_keys ho]; exact List.prefix_refl _
        cases hb : Nat.blt l.length 2 with
        | true =>
          rw [hb] at p
          have hb : l.length < 2 := Nat.le_of_ble_eq_true hb
          exact sort_K r.F N x1 x2 (by omega) fun h' k F' N' => fin l ws h' k hr (r.bd i _ hl) F' N' p s.toks
        | false => rw [hb] at p; exact p.elim
  · exact p.elim
theorem strs_of {ι : List Addr} {frz : Led} {l : List AV} {vs : List Value} (h : All2 (VR G ι frz) l vs) : ∀ {ys : List (List Nat)}, l.mapM strOf = some ys → StrsAre vs (ys.map fun y => ⟨y.toArray⟩) := by
  intro ys e
  have h2 := mapM_all2 e
  clear e
  induction h generalizing ys with
  | nil => cases h2; exact .nil
  | cons hv _ ih =>
    cases h2 with
    | cons hx h2 =>
      rw [strOf_inv hx] at hv
      cases hv with | p hv => cases hv; exact .cons _ _ (ih h2)
theorem sm_join (ok : FmOk G Φ d) : SMt G Φ .join (bmeth .join) := by
  intro own σ s m trk frz Q E x x' vs vs' r vx hv p
  have p : Post (VR G) G Φ own m trk frz s (match strOf x with | some x => fun1 (mJoin x) vs σ | none => .stuck) Q E := p
  cases hx : strOf x with
  | none => rw [hx] at p; exact p.elim
  | some x₀ =>
    rw [hx] at p
    rw [strOf_inv hx] at vx
    cases vx with | p vx =>
    cases vx with | str _ t =>
    cases hv with
    | nil => exact p.elim
    | @cons y₀ _ _ _ hy hv =>
      cases hv with
      | cons _ _ => exact p.elim
      | nil =>
        have p' : Post (VR G) G Φ own m trk frz s (mJoin x₀ y₀ σ) Q E := p
        clear p
        unfold mJoin at p'
        cases hl : lstAt (objOf σ y₀) with
        | none => rw [hl] at p'; exact p'.elim
        | some l =>
          rw [hl] at p'; dsimp only at p'
          obtain ⟨i, rfl, hi⟩ := objOf_inv hl
          cases hys : l.mapM strOf with
          | none => rw [hys] at p'; exact p'.elim
          | some ys =>
            rw [hys] at p'; dsimp only at p'
            cases hb : (Nat.ble x₀.length 16 && Nat.ble ((ys.map (·.length)).sum + ys.length) 1000000) with
            | false => rw [hb] at p'; exact p'.elim
            | true =>
              rw [hb] at p'
              rw [Bool.and_eq_true] at hb
              have b1 := Nat.le_of_ble_eq_true hb.1
              have b2 := Nat.le_of_ble_eq_true hb.2
              cases hy with | obj ha =>
                obtain ⟨o, ho, hr⟩ := r.obj ha hi
                cases hr with | lst hr =>
                  have e1 : ((ys.map fun y => (⟨y.toArray⟩ : Str)).map (·.length)) = ys.map (·.length) := by
                    rw [List.map_map]; apply List.map_congr_left; intro y _; exact str_len y
                  refine join_listW ⟨_, r.trkAt ho, rfl, _, rfl⟩ (strs_of hr hys) (by rw [str_len]; exact b1) (by rw [e1, List.length_map]; omega) fun t' k => ?_
                  exact Post.ret (tk := k) p' r (.p (prel_str _ t'))
end
end Mine
namespace Mine
open PySem PySem.W PyProof.Rows PySem.Calls PySem.SeqAt

section
variable {G : Gl} {Φ : Fm} {d : Nat} {own : Led} {σ : St} {h h' : Heap} {m : Nm} {trk frz : Led} {s : Shared} {E : Value → Shared → Prop}

theorem sf_two {v : Value} {f : AV → AV → St → Out AV} (h : ∀ own σ s m trk frz Q E x x' y y', Re G Φ own σ s.heap m trk frz → VR G (trk.map (·.1)) frz x x' → VR G (trk.map (·.1)) frz y y' → Post (VR G) G Φ own m trk frz s (f x y σ) Q E → wpAny (model G.prog G.w) Φ.A (call v [x', y']) Q E s) : SFn G Φ v [] (fun2 f) := by
  intro own σ s m trk frz Q E vs vs' r hv p
  cases hv with
  | nil => exact p.elim
  | cons hx hv =>
    cases hv with
    | nil => exact p.elim
    | cons hy hv =>
      cases hv with
      | nil => exact h own σ s m trk frz Q E _ _ _ _ r hx hy p
      | cons _ _ => exact p.elim
theorem sf_max (ok : FmOk G Φ d) : SFn G Φ (.builtin "max") [] (fun2 bMax) := sf_two fun own σ s m trk frz Q E x x' y y' r hx hy p => by
  unfold bMax int2 at p
  split at p
  · rename_i a b ha hb
    dsimp only at p
    rw [intOf_inv ha] at hx
    rw [intOf_inv hb] at hy
    cases hx with | p hx => cases hx with | int _ t => cases hy with | p hy => cases hy with | int _ u =>
      refine max_two_ints ok.hd fun h' tk hk => ?_
      have F' : Fr Φ.h₀ Φ.L h' m.fn := r.F.keeps hk
      have r' : Re G Φ own σ h' m trk frz := ⟨F', fun q hq => ⟨hk _ _ (r.N q hq).1, (r.N q hq).2⟩, r.nd, r.hp, r.bd, r.hw, r.lo, r.ca⟩
      by_cases hab : b > a
      · rw [if_pos hab]
        rw [decide_eq_true hab] at p
        exact p _ h' tk trk frz r' (List.prefix_refl _) (fun _ q => q) (.p (.int _ _))
      · rw [if_neg hab]
        rw [decide_eq_false hab] at p
        exact p _ h' tk trk frz r' (List.prefix_refl _) (fun _ q => q) (.p (.int _ _))
  · exact p.elim
theorem sf_list (ok : FmOk G Φ d) : SFn G Φ (.type "list") [] (fun1 bList) := sf_one fun own σ s m trk frz Q E x x' r hx p => by
  unfold bList at p
  split at p
  · rename_i l hl
    have p₀ := p
    unfold newLst at p₀
    split at p₀
    · rename_i hn
      have hn := okLen_le hn
      obtain ⟨a, ws, rfl, h1, h2⟩ := seq_at ok r hx hl
      have e := h1.length
      have fin : ∀ h' c', (∀ b o, s.heap.get? b = some o → h'.get? b = some o) → h'.get? s.heap.objs.size = some { cls := .type "list", data := .seq ws.toArray c' } → Q (.ref s.heap.objs.size) { s with heap := h' } := fun h' c' hk hD => by
        refine newLst_post (n := c') (tk := s.toks) r h1 p (r.F.keeps hk) (fun q hq => ?_) (fun q hq => Heap.lt_size (r.N q hq).1)
        rcases List.mem_cons.mp hq with rfl | hq
        · exact ⟨hD, ((r.N.push r.F (listOf #[] 0)) _ (.head _)).2.1, none_at_size r.F⟩
        · exact ⟨hk _ _ (r.N q hq).1, (r.N q hq).2⟩
      rcases h2 with h2 | h2
      · obtain ⟨o, ho, hc, n, hd⟩ := h2
        exact call_list_seq (hsz := by simp only [List.size_toArray]; rw [sizeLine_eq]; omega) a (.inl rfl) ho hc hd fin
      · obtain ⟨o, ho, hc, n, hd⟩ := h2
        exact call_list_seq (hsz := by simp only [List.size_toArray]; rw [sizeLine_eq]; omega) a (.inr rfl) ho hc hd fin
    · exact p₀.elim
  · exact p.elim
theorem dec2_ok : ∀ n : Nat, n < 100 → PySem.Str.ofString (toString (n : Int)) = ⟨(dec2 n).toArray⟩ := by decide +kernel
theorem sf_str : SFn G Φ (.type "str") [] (fun1 bStr) := sf_one fun own σ s m trk frz Q E x x' r hx p => by
  unfold bStr at p
  split at p
  · rename_i i hi
    rw [intOf_inv hi] at hx
    split at p
    · rename_i hb
      rw [Bool.and_eq_true, decide_eq_true_eq, decide_eq_true_eq] at hb
      obtain ⟨n, rfl⟩ := Int.eq_ofNat_of_zero_le hb.1
      have hn : n < 100 := by omega
      cases hx with | p hx => cases hx with | int _ t =>
        have hlog : (n : Int).natAbs.log2 < 1920 := by
          rw [Int.natAbs_natCast]
          exact Nat.lt_of_le_of_lt (Nat.log2_le_self n) (by omega)
        refine PySem.P.str_of_int hlog ?_
        have e := dec2_ok n hn
        show Q (.str (PySem.Str.ofString (toString (n : Int))) _) _
        rw [e]
        exact p.ret r (.p (.str _ _))
    · exact p.elim
  · exact p.elim
theorem digV_lt {c a : Nat} (h : digV c = some a) : a < 10 ∧ c = a + 48 := by
  unfold digV at h
  split at h
  · rename_i hb
    rw [Bool.and_eq_true] at hb
    have h1 := Nat.le_of_ble_eq_true hb.1
    have h2 := Nat.le_of_ble_eq_true hb.2
    cases h
    omega
  · cases h
theorem int1_ok : ∀ a : Nat, a < 10 → PySem.intText? ⟨[a + 48].toArray⟩ = some (a : Int) := by decide +kernel
theorem int2_ok : ∀ a : Nat, a < 10 → ∀ b : Nat, b < 10 → PySem.intText? ⟨[a + 48, b + 48].toArray⟩ = some ((a * 10 + b : Nat) : Int) := by decide +kernel
theorem numL_ok {l : List Nat} {n : Nat} (h : numL l = some n) : PySem.intText? ⟨l.toArray⟩ = some (n : Int) ∧ l.length ≤ 2 := by
  unfold numL at h
  split at h
  · cases h
  · split at h
    · cases h
    · rename_i a ha
      obtain ⟨h1, rfl⟩ := digV_lt ha
      split at h
      · cases h; exact ⟨int1_ok _ h1, by simp⟩
      · split at h
        · split at h
          · rename_i b hb
            obtain ⟨h2, rfl⟩ := digV_lt hb
            cases h
            exact ⟨int2_ok _ h1 _ h2, by simp⟩
          · cases h
        · cases h
theorem sf_int : SFn G Φ (.type "int") [] (fun1 bInt) := sf_one fun own σ s m trk frz Q E x x' r hx p => by
  unfold bInt at p
  split at p
  · rename_i l hl
    rw [strOf_inv hl] at hx
    split at p
    · rename_i n hn
      obtain ⟨h1, h2⟩ := numL_ok hn
      cases hx with | p hx =>
      cases hx
      exact KIN.call_text h1 (by rw [str_len]; omega) (p.ret r (.p (.int _ _)))
    · exact p.elim
  · exact p.elim
theorem sf_of {b : BF} {v : Value} (ok : FmOk G Φ d) (h : BFv b v = true) : SFn G Φ v [] (bfun b) := by
  cases b with
  | len => rw [eq_of_beq h]; exact sf_len ok
  | tuple => rw [eq_of_beq h]; exact sf_tuple ok
  | list => rw [eq_of_beq h]; exact sf_list ok
  | max => rw [eq_of_beq h]; exact sf_max ok
  | str => rw [eq_of_beq h]; exact sf_str
  | int => rw [eq_of_beq h]; exact sf_int


theorem kl_snoc (p : List Value) (y : Value) : kl_last (p ++ [y]) = some (p, y) := by
  induction p with
  | nil => rfl
  | cons x r ih => show (match kl_last (r ++ [y]) with | some (p, y) => some (x :: p, y) | none => some ([], x)) = _; rw [ih]
theorem All2.snoc {α β : Type} {R : α → β → Prop} {l : List α} {r : List β} {y : α} (h : All2 R l r) (hy : l.getLast? = some y) : ∃ p w, r = p ++ [w] ∧ R y w ∧ All2 R l.dropLast p := by
  induction h with
  | nil => cases hy
  | cons h h' ih =>
    cases h' with
    | nil => cases hy; exact ⟨[], _, rfl, h, .nil⟩
    | cons k k' =>
      obtain ⟨p, w, e, a, b⟩ := ih (by rw [List.getLast?_cons_cons] at hy; exact hy)
      exact ⟨_ :: p, w, by rw [e]; rfl, a, .cons h b⟩
theorem sm_pop (ok : FmOk G Φ d) : SMt G Φ .pop mPop := by
  intro own σ s m trk frz Q E x x' vs vs' r vx hv p
  unfold mPop at p
  split at p
  · rename_i i
    cases vx with | obj ha =>
    rename_i D
    cases hv with
    | cons _ _ => exact p.elim
    | nil =>
      dsimp only at p
      cases hl : lstAt σ.hp[i]? with
      | none => rw [hl] at p; exact p.elim
      | some l =>
        rw [hl] at p; dsimp only at p
        have hl := lstAt_inv hl
        cases hy : l.getLast? with
        | none => rw [hy] at p; exact p.elim
        | some y =>
          rw [hy] at p; dsimp only at p
          cases hb : okLen l.length with
          | false => rw [hb] at p; exact p.elim
          | true =>
            rw [hb] at p
            have hb := okLen_le hb
            obtain ⟨o, ho, hr⟩ := r.obj ha hl
            cases hr with | lst hr =>
              have hlen := hr.length
              obtain ⟨ps, w, rfl, hw, hps⟩ := hr.snoc hy
              rename_i n
              refine kl_pop (p := ps) (y := w) r.F r.N (kl_snoc ps w) (upd_of (o' := listOf ps.toArray (n + 1)) r.nd ho) (by show (ps ++ [w]).length ≤ _; rw [sizeLine_eq]; omega) fun h' F' N' => ?_
              refine p w h' s.toks (trk.set i (D, listOf ps.toArray (n + 1))) frz (r.setT (ao := .lst l.dropLast) ho F' N' (.lst hps) (Nat.le_refl _) r.hw ?_) ?_ (fun _ q => q) ?_
              · have := r.bd i _ hl
                refine Nat.le_trans ?_ this
                show bds l.dropLast ≤ bds l
                rw [bds_le]
                exact fun v hv => bds_le.mp (Nat.le_refl _) v ((List.dropLast_sublist l).subset hv)
              · rw [set_keys ho]; exact List.prefix_refl _
              · rw [set_keys ho]; exact hw
  · exact p.elim
theorem sm_str1 {b : BM} {f : List Nat → AV → St → Out AV} (h : ∀ own σ s m trk frz Q E x t y y', Re G Φ own σ s.heap m trk frz → VR G (trk.map (·.1)) frz y y' → Post (VR G) G Φ own m trk frz s (f x y σ) Q E → wpAny (model G.prog G.w) Φ.A (call (.builtin b.id) [.str ⟨x.toArray⟩ t, y']) Q E s) :
    SMt G Φ b (fun v args σ => match strOf v with | some x => fun1 (f x) args σ | none => .stuck) := by
  intro own σ s m trk frz Q E x x' vs vs' r vx hv p
  dsimp only at p
  cases hx : strOf x with
  | none => rw [hx] at p; exact p.elim
  | some x₀ =>
    rw [hx] at p
    rw [strOf_inv hx] at vx
    cases vx with | p vx =>
    cases vx with | str _ t =>
    cases hv with
    | nil => exact p.elim
    | cons hy hv =>
      cases hv with
      | cons _ _ => exact p.elim
      | nil => exact h own σ s m trk frz Q E _ _ _ _ r hy p
theorem sm_rstrip : SMt G Φ .rstrip (bmeth .rstrip) := sm_str1 (f := mRstrip) fun own σ s m trk frz Q E x t y y' r hy p => by
  unfold mRstrip at p
  split at p
  · rename_i z hz
    split at p
    · rename_i hn
      have hn := okLen_le hn
      rw [strOf_inv hz] at hy
      cases hy with | p hy => cases hy; exact SC.rstripChars (fun t' k => p.ret r (.p (prel_str _ _))) (by rw [str_len, sizeLine_eq]; omega)
    · exact p.elim
  · exact p.elim
theorem strVals_rel {ι : List Addr} : ∀ l : List (Str × Tok), All2 (VR G ι frz) ((l.map (·.1)).map fun s => .p (.str s.cps.toList)) (strValues l)
  | [] => .nil
  | q :: r => .cons (.p (prel_str _ _)) (strVals_rel r)
theorem sm_split : SMt G Φ .split (bmeth .split) := sm_str1 (f := mSplit) fun own σ s m trk frz Q E x t y y' r hy p => by
  unfold mSplit at p
  split at p
  · rename_i z hz
    split at p
    · rename_i hn
      rw [Bool.and_eq_true] at hn
      have h1 := okLen_le hn.1
      rw [strOf_inv hz] at hy
      cases hy with | p hy => cases hy with | str _ u =>
        refine KSpl.split1 r.F r.N ?_ (fun D l h' k e _ F' N' hlt => ?_) (by rw [str_len, sizeLine_eq]; omega)
        · rw [str_len]
          cases z with
          | nil => exact absurd hn.2 (by simp)
          | cons _ _ => rfl
        · rw [← e] at p
          exact newLst_post (n := 0) (tk := k) r (strVals_rel l) p F' N' hlt
    · exact p.elim
  · exact p.elim
theorem starts3_ok {x y : List Nat} {k : Nat} (hk : k ≤ x.length) : Txt.startswith3 ⟨x.toArray⟩ ⟨y.toArray⟩ (k : Int) = startsL x y k := by
  have hf : fromIndex (PySem.Str.length ⟨x.toArray⟩) (k : Int) = k := by unfold fromIndex; rw [if_neg (by omega)]; omega
  unfold Txt.startswith3
  rw [hf]
  show (decide (k + y.toArray.size ≤ x.toArray.size) && (x.toArray.extract k (k + y.toArray.size) == y.toArray)) = preL y (x.drop k)
  rw [Bool.eq_iff_iff, preL_iff, Bool.and_eq_true, decide_eq_true_eq, beq_iff_eq, List.size_toArray, List.size_toArray, List.length_drop, List.extract_toArray, List.extract_eq_take_drop]
  constructor
  · rintro ⟨h1, h2⟩
    have h2 := congrArg Array.toList h2
    simp only [List.toList_toArray, Nat.add_sub_cancel_left] at h2
    exact ⟨by omega, h2⟩
  · rintro ⟨h1, h2⟩
    refine ⟨by omega, ?_⟩
    rw [Nat.add_sub_cancel_left, h2]
theorem sm_starts : SMt G Φ .startswith (bmeth .startswith) := by
  intro own σ s m trk frz Q E x x' vs vs' r vx hv p
  have p : Post (VR G) G Φ own m trk frz s (mStarts x vs σ) Q E := p
  cases hv with
  | nil => exact p.elim
  | @cons y _ _ _ hy hv' =>
    cases hv' with
    | nil => exact sm_startswith own σ s m trk frz Q E x x' [y] _ r vx (.cons hy .nil) p
    | @cons k _ _ _ hk hv'' =>
      cases hv'' with
      | cons _ _ => exact p.elim
      | nil =>
        have p : Post (VR G) G Φ own m trk frz s (match strOf x with | some x => mStarts3 x y k σ | none => .stuck) Q E := p
        cases hx : strOf x with
        | none => rw [hx] at p; exact p.elim
        | some x₀ =>
          rw [hx] at p
          rw [strOf_inv hx] at vx
          cases vx with | p vx => cases vx with | str _ t =>
          dsimp only at p
          unfold mStarts3 at p
          cases hys : strOf y with
          | none => rw [hys] at p; exact p.elim
          | some y₀ =>
            rw [hys] at p; dsimp only at p
            rw [strOf_inv hys] at hy
            cases hy with | p hy => cases hy with | str _ u =>
            cases hki : intOf k with
            | none => rw [hki] at p; exact p.elim
            | some i =>
              rw [hki] at p; dsimp only at p
              rw [intOf_inv hki] at hk
              cases hk with | p hk => cases hk with | int _ v =>
              cases hb : (okInt i && Nat.ble i.toNat x₀.length) with
              | false => rw [hb] at p; exact p.elim
              | true =>
                rw [hb] at p
                rw [Bool.and_eq_true] at hb
                have h0 : 0 ≤ i := by
                  have := hb.1
                  unfold okInt at this
                  rw [Bool.and_eq_true, decide_eq_true_eq, decide_eq_true_eq] at this
                  exact this.1
                obtain ⟨n, rfl⟩ := Int.eq_ofNat_of_zero_le h0
                have hn : n ≤ x₀.length := Nat.le_of_ble_eq_true hb.2
                refine SC.startswith3 ?_
                rw [starts3_ok hn]
                exact p.ret0 r (.p (.bool _))
theorem sm_of {b : BM} (ok : FmOk G Φ d) : SMt G Φ b (bmeth b) := by
  cases b with
  | append => exact sm_append ok
  | count => exact sm_count
  | rfind => exact sm_rfind
  | find => exact sm_find
  | startswith => exact sm_starts
  | join => exact sm_join ok
  | sort => exact sm_sort ok
  | pop => exact sm_pop ok
  | rstrip => exact sm_rstrip
  | split => exact sm_split
end
end Mine
namespace Mine
open PySem PySem.W PyProof.Rows PySem.Calls PySem.SeqAt

theorem rv_tuple_no : typeLookup (.type "tuple") "__reversed__" = pure none := by rw [typeLookup_type, builtinLookup_eq_fast]; kernel_rfl
theorem rv_entry_next : entryFor table "reversed.__next__" = some Builtin.«reversed.__next__» := entryFor_of_tree (by kernel_rfl)
theorem rv_slot_next : Slot "reversed" "__next__" "reversed.__next__" :=
  .of (owner := "reversed") (n := "__next__") (by rw [typeLookup_type, builtinLookup_eq_fast]; kernel_rfl) (by decide +kernel) (by decide +kernel) (by decide +kernel)
    (by first | exact .inl (by decide +kernel) | exact .inr (by decide +kernel)) (by rw [isSubtype_type]; kernel_rfl)
theorem rv_slot_iter : Slot "reversed" "__iter__" "reversed.__iter__" :=
  .of (owner := "reversed") (n := "__iter__") (by rw [typeLookup_type, builtinLookup_eq_fast]; kernel_rfl) (by decide +kernel) (by decide +kernel) (by decide +kernel)
    (by first | exact .inl (by decide +kernel) | exact .inr (by decide +kernel)) (by rw [isSubtype_type]; kernel_rfl)
theorem rv_args_next (a : Value) : argsOk "reversed.__next__" ⟨[a], []⟩ := by unfold argsOk; kernel_rfl
theorem rv_args_iter (a : Value) : argsOk "reversed.__iter__" ⟨[a], []⟩ := by unfold argsOk; kernel_rfl
theorem rv_entry_iter : entryFor table "reversed.__iter__" = some Builtin.«dict_keyiterator.__iter__» :=
  entryFor_alias (id' := "dict_keyiterator.__iter__") (by kernel_rfl) (by first | rfl | decide +kernel | (unfold String.splitOn; simp +decide [String.splitOnAux])) (by decide +kernel) (by kernel_rfl)
end Mine
namespace Mine
open PySem PySem.W PyProof.Rows PySem.Calls PySem.SeqAt

noncomputable def rvObj (a : Addr) (i : Int) : Obj := { cls := .type "reversed", data := .fields #[.ref a, rawInt i] }
theorem rv_slot_init : Slot "reversed" "__init__" "object.__init__" :=
  .of (owner := "object") (n := "__init__") (by rw [typeLookup_type, builtinLookup_eq_fast]; kernel_rfl) (by decide +kernel) (by decide +kernel) (by decide +kernel)
    (by first | exact .inl (by decide +kernel) | exact .inr (by decide +kernel)) (by rw [isSubtype_type]; kernel_rfl)
theorem rv_called : TypeCalled "reversed" "reversed.__new__" "object.__init__" := ⟨by decide +kernel, F.create_reversed, ⟨_, _, F.mro_reversed⟩, F.made_reversed, F.plain_reversed_new, F.sub_reversed_self, rv_slot_init⟩
theorem rv_getitem : typeLookup (.type "tuple") "__getitem__" = pure (some (.builtin "tuple.__getitem__")) := by rw [typeLookup_type, builtinLookup_eq_fast]; kernel_rfl
theorem rv_notdict : isSubtype (.type "tuple") (.type "dict") = pure false := by rw [isSubtype_type]; kernel_rfl
section
variable {prog : Program} {w : World} {A : Around} {E : Value → Shared → Prop} {s : Shared}
theorem rv_meets {a : Addr} {items : Array Value} (hsz : items.size < 1000000) : MeetsIn prog w (Builtin.«reversed.__new__» ⟨[.type "reversed", .ref a], []⟩)
    (fun _ R s => IsTup s.heap a items ∧ R (.ok (.ret (.ref s.heap.objs.size))) { s with heap := s.heap.push (rvObj a ((items.size : Int) - 1)), toks := s.toks + 1 + 1 }) := .of_wp fun A R s h => by
  obtain ⟨ht, h⟩ := h
  unfold Builtin.«reversed.__new__»
  refine wpAny_bind (wpAny_of_eq (newClass_reversed _) ?_)
  try dsimp only
  refine wpAny_bind (wpAny_of_eq (a := ()) (by first | rfl | kernel_rfl) ?_)
  refine wpAny_bind (wpAny_of_eq (a := ()) (by first | rfl | kernel_rfl) ?_)
  try dsimp only
  refine wpAny_bind (wpAny_specialOf ht.typeIs rv_tuple_no ?_)
  try dsimp only
  refine wpAny_bind ?_
  refine wpAny_bind (wpAny_isInstance (T := "tuple") ht.typeIs rv_notdict ?_)
  simp only [Bool.false_eq_true, if_false]
  refine wpAny_bind (wpAny_specialOf ht.typeIs rv_getitem ?_)
  dsimp only
  rw [if_pos (by decide +kernel)]
  refine wpAny_pure ?_
  simp only [Bool.not_true, Bool.false_eq_true, if_false]
  refine wpAny_bind (len_tuple ht (by omega) ?_)
  refine wpAny_bind (wpAny_of_eq (a := some (items.size : Int)) rfl ?_)
  dsimp only
  refine wpAny_bind ?_
  unfold Builtin.SmallTypes.newRecord
  exact wpAny_newObj_type (wpAny_pure ⟨_, rfl, h⟩)
theorem rv_call {a : Addr} {items : Array Value} {Q : Value → Shared → Prop} (ht : IsTup s.heap a items) (hsz : items.size < 1000000)
    (h : Q (.ref s.heap.objs.size) { s with heap := s.heap.push (rvObj a ((items.size : Int) - 1)), toks := s.toks + 1 + 1 }) : wpAny (model prog w) A (call (.type "reversed") [.ref a]) Q E s :=
  callType_newIn rv_called (by decide) (F.typeCall_reversed_1 _) (F.newCall_reversed_1 _) (fun obj => F.initArgs_range_1 obj _) F.entry_reversed_new (rv_meets hsz) ⟨ht, ⟨_, Heap.get?_push_size _ rfl, rfl⟩, h⟩
theorem rv_iter {it : Addr} {o : Obj} {Q : Value → Shared → Prop} (ho : s.heap.get? it = some o) (hc : o.cls = .type "reversed") (h : Q (.ref it) s) : wpAny (model prog w) A (pyIter (.ref it)) Q E s := by
  have hT : s.TypeIs (.ref it) "reversed" := ⟨o, ho, hc⟩
  refine wpAny_pyIter_slot hT rv_slot_iter (wpAny_call_entry rv_slot_iter hT rv_entry_iter ?_ (rv_args_iter _))
  show wpAny _ _ (ret (.ref it)) _ _ s
  exact wpAny_pure ⟨_, rfl, "reversed", _, hT, rv_slot_next.lookup, h⟩
theorem rv_next_item {it a : Addr} {o : Obj} {i : Nat} {items : Array Value} {x : Value} {Q : Option Value → Shared → Prop} (ho : s.heap.get? it = some o) (hc : o.cls = .type "reversed") (hd : o.data = .fields #[.ref a, rawInt (i : Int)]) (ht : IsTup s.heap a items) (hx : items[i]? = some x) (hsz : items.size < 1000000)
    (hQ : ∀ h' tk o', h'.get? it = some o' → o'.cls = .type "reversed" → o'.data = .fields #[.ref a, rawInt ((i : Int) - 1)] → Heap.SameBut it s.heap h' → Q (some x) { s with heap := h', toks := tk }) : wpAny (model prog w) A (pyNext (.ref it)) Q E s := by
  have hT : s.TypeIs (.ref it) "reversed" := ⟨o, ho, hc⟩
  have hlt : i < items.size := (Array.getElem?_eq_some_iff.mp hx).1
  unfold pyNext
  refine wpAny_bind (wpAny_attempt (wpAny_callSpecial?_slot (name := Str.ofString "__next__") hT rv_slot_next (wpAny_call_entry rv_slot_next hT rv_entry_next ?_ (rv_args_next _))))
  unfold Builtin.«reversed.__next__»
  refine wpAny_bind (wpAny_of_eq (a := (Value.ref it, [])) rfl ?_)
  try dsimp only
  refine wpAny_bind (wpAny_field ho hd (x := .ref a) rfl ?_)
  refine wpAny_bind (wpAny_field ho hd (x := rawInt (i : Int)) rfl ?_)
  show wpAny _ _ (if (i : Int) < 0 then _ else _) _ _ s
  rw [if_neg (by omega)]
  refine wpAny_bind (wpAny_specialOf ht.typeIs rv_getitem ?_)
  simp only [Option.isNone_some, Bool.false_eq_true, if_false]
  refine wpAny_bind (wpAny_mkInt ?_)
  refine wpAny_bind (wpAny_attempt (getItem_tuple (j := i) ht (by omega) (by omega) (by unfold seqIndex?; simp; omega) hx ?_))
  dsimp only
  refine wpAny_bind (wpAny_field ho hd (x := rawInt (i : Int)) rfl ?_)
  refine wpAny_bind (wpAny_setField ho hd (by simp) ?_)
  refine wpAny_pure ⟨x, rfl, wpAny_pure (hQ _ _ _ (Heap.get?_update_self _ ho (Obj.isFreed_of_fields (Obj.data_mapFields hd _))) ((Obj.cls_mapFields ..).trans hc) ?_ (Heap.SameBut.update ..))⟩
  rw [Obj.data_mapFields hd]; simp
theorem rv_next_end {it a : Addr} {o : Obj} {Q : Option Value → Shared → Prop} (hh : A.handled = none) (ho : s.heap.get? it = some o) (hc : o.cls = .type "reversed") (hd : o.data = .fields #[.ref a, rawInt (-1)])
    (hQ : ∀ h', Heap.ExtBut it s.heap h' → Q none { s with heap := h' }) : wpAny (model prog w) A (pyNext (.ref it)) Q E s := by
  have hT : s.TypeIs (.ref it) "reversed" := ⟨o, ho, hc⟩
  unfold pyNext
  refine wpAny_bind (wpAny_attempt (wpAny_callSpecial?_slot (name := Str.ofString "__next__") hT rv_slot_next (wpAny_call_entry rv_slot_next hT rv_entry_next ?_ (rv_args_next _))))
  unfold Builtin.«reversed.__next__»
  refine wpAny_bind (wpAny_of_eq (a := (Value.ref it, [])) rfl ?_)
  try dsimp only
  refine wpAny_bind (wpAny_field ho hd (x := .ref a) rfl ?_)
  refine wpAny_bind (wpAny_field ho hd (x := rawInt (-1)) rfl ?_)
  show wpAny _ _ (if (-1 : Int) < 0 then _ else _) _ _ s
  rw [if_pos (by decide)]
  refine wpAny_bind (wpAny_rule ?_)
  have hd1 := Obj.data_mapFields hd (·.setIfInBounds 1 (rawInt (-1)))
  have ho1 := Heap.get?_update_self (Obj.mapFields (·.setIfInBounds 1 (rawInt (-1)))) ho (Obj.isFreed_of_fields hd1)
  refine wpAny_bind (show wpAny _ _ (do setField (.ref it) 1 (rawInt (-1)); setField (.ref it) 0 .none) _ _ _ from wpAny_bind (wpAny_setField ho hd (by simp) (wpAny_setField ho1 hd1 (by simp) ?_)))
  have x1 := (Heap.SameBut.update s.heap it (Obj.mapFields (·.setIfInBounds 1 (rawInt (-1))))).extBut
  have x2 := (Heap.SameBut.update (s.heap.update it (Obj.mapFields (·.setIfInBounds 1 (rawInt (-1))))) it (Obj.mapFields (·.setIfInBounds 0 Value.none))).extBut
  have x3 : Heap.ExtBut it s.heap _ := fun b o hb e => x2 b o hb (x1 b o hb e)
  first
  | show wpAny _ _ (newExc (.type "StopIteration") [] >>= _) _ _ _
  | (refine wpAny_bind ?_; show wpAny _ _ (newExc (.type "StopIteration") [] >>= _) _ _ _)
  refine wpAny_bind ?_
  simp only [newExc, newTuple]
  refine wpAny_bind (wpAny_newObj_type ?_ (by size_fits))
  refine wpAny_bind (m := firstArgMember _ _) (wpAny_of_eq (a := Value.none) (by first | rfl | (simp only [firstArgMember]; rfl)) ?_)
  refine wpAny_newObj_type ?_ (by size_fits)
  simp only [raiseNew]
  refine wpAny_bind (wpAny_handled ?_)
  first | rw [show A.in1.handled = none from hh] | rw [hh]
  refine wpAny_bind (wpAny_pure (wpAny_throw ?_))
  refine wpAny_bind (wpAny_isInstance (T := "StopIteration") (b := true) ⟨_, Heap.get?_push_size _ rfl, rfl⟩ isSubtype_stop ?_)
  exact wpAny_pure (hQ _ ((x3.push _).push _))
end
end Mine
namespace Mine
open PySem PySem.W PyProof.Rows PySem.Calls PySem.SeqAt

section
variable {G : Gl} {Φ : Fm} {d : Nat} {own : Led} {σ : St} {h h' : Heap} {m : Nm} {trk frz : Led} {s : Shared} {E : Value → Shared → Prop}

/-- from a statement's post to its expression's -/
theorem PostS.bind {α β : Type} {R : List Addr → Led → α → β → Prop} {fb : Nat} {o : Out α} {k : α → St → Out Fl} {Q : Flow → Shared → Prop} {Q' : β → Shared → Prop} (h : PostS G Φ own fb trk frz s (o.bind k) Q E) 
    (step : ∀ a σ₁ b h₁ tk₁ trk₁ frz₁, o = .ok a σ₁ → Re G Φ own σ₁ h₁ m trk₁ frz₁ → trk.map (·.1) <+: trk₁.map (·.1) → (∀ q ∈ frz, q ∈ frz₁) → R (trk₁.map (·.1)) frz₁ a b →
      PostS G Φ own fb trk₁ frz₁ { s with heap := h₁, toks := tk₁ } (k a σ₁) Q E → Q' b { s with heap := h₁, toks := tk₁ }) (hfb : fb ≤ trk.length) : Post R G Φ own m trk frz s o Q' E := by
  have tk : ∀ {t t' : List Addr}, t <+: t' → fb ≤ t.length → t.take fb = t'.take fb := by
    rintro t _ ⟨u, rfl⟩ h
    rw [List.take_append_of_le_length h]
  cases o with
  | ok a σ =>
    intro b h' tk' trk' frz' r p q v
    refine step a σ b h' tk' trk' frz' rfl r p q v ?_
    have e := tk p (by simpa using hfb)
    revert h
    show PostS G Φ own fb trk frz s (k a σ) Q E → _
    generalize k a σ = o'
    intro h
    cases o' with
    | ok a' σ' => exact fun b₂ h₂ tk₂ m₂ trk₂ frz₂ r₂ p₂ q₂ v₂ => h b₂ h₂ tk₂ m₂ trk₂ frz₂ r₂ (by rw [e]; exact p₂) (fun x hx => q₂ x (q x hx)) v₂
    | exc x σ' => exact fun e₂ h₂ tk₂ m₂ trk₂ frz₂ r₂ p₂ q₂ => h e₂ h₂ tk₂ m₂ trk₂ frz₂ r₂ (by rw [e]; exact p₂) (fun x hx => q₂ x (q x hx))
    | stuck => exact h
  | exc x σ => exact fun e h' tk' m' trk' frz' r p q => h e h' tk' m' trk' frz' r ((List.take_prefix _ _).trans p) q
  | stuck => exact h.elim

theorem PostS.ret {fb tk : Nat} {fl : Fl} {fl' : Flow} {Q : Flow → Shared → Prop} (h : PostS G Φ own fb trk frz s (.ok fl σ) Q E) (r : Re G Φ own σ s.heap m trk frz) (v : FlR G (trk.map (·.1)) frz fl fl') : Q fl' { s with toks := tk } :=
  h fl' s.heap tk m trk frz r (List.take_prefix _ _) (fun _ q => q) v

theorem take_keep {fb n : Nat} (h : fb ≤ n) : (trk.map (·.1)).take fb <+: (trk.take n).map (·.1) := by
  rw [List.map_take]; exact List.take_prefix_take_left h
theorem PostS.trimmed {fb tk : Nat} {Q : Flow → Shared → Prop} {m' : Nm} (h : PostS G Φ own fb trk frz s (.ok .next (trim fb σ)) Q E) (r : Re G Φ own σ h' m' trk frz) : Q .next { s with heap := h', toks := tk } := by
  obtain ⟨n, hn', r'⟩ := r.trim fb
  exact h .next h' tk m' _ frz r' (take_keep hn') (fun _ q => q) .next

noncomputable def setL (a : Addr) (o : Obj) (l : Led) : Led := l.map fun q => if q.1 = a then (a, o) else q
theorem setL_keys {a : Addr} {o : Obj} {l : Led} : (setL a o l).map (·.1) = l.map (·.1) := by
  unfold setL
  rw [List.map_map]
  refine List.map_congr_left fun q _ => ?_
  show (if q.1 = a then (a, o) else q).1 = q.1
  split
  · rename_i e; exact e.symm
  · rfl
theorem setL_at {a : Addr} {o o' : Obj} {l : Led} (h : (a, o) ∈ l) : (a, o') ∈ setL a o' l :=
  List.mem_map.mpr ⟨(a, o), h, if_pos rfl⟩
theorem setL_other {a b : Addr} {o o' : Obj} {l : Led} (h : (b, o) ∈ l) (hne : b ≠ a) : (b, o) ∈ setL a o' l :=
  List.mem_map.mpr ⟨(b, o), h, if_neg hne⟩
theorem setL_inv {q : Addr × Obj} {a : Addr} {o' : Obj} {l : Led} (h : q ∈ setL a o' l) : q = (a, o') ∨ (q ∈ l ∧ q.1 ≠ a) := by
  obtain ⟨p, hp, e⟩ := List.mem_map.mp h
  split at e
  · exact .inl e.symm
  · rename_i hne; subst e; exact .inr ⟨hp, hne⟩

/-- a cell, or the comprehension's names, changed -/
theorem Re.setCel {σ' : St} {a : Addr} {o o' : Obj} (r : Re G Φ own σ h m trk frz) (ha : (a, o) ∈ m.cel) (hs : Heap.SameBut a h h') (ho : h'.get? a = some o')
    (h1 : σ'.hp = σ.hp) (h2 : σ'.hw = σ.hw) (hc : (∃ v, o'.data = .cell v) ∨ Pl.cell a ∉ Φ.pl)
    (hlo : ∀ (i : Nat) (v : AV), σ'.lo[i]? = some (some v) → ∃ p v', Φ.pl[i]? = some p ∧ p.reads Φ.C ⟨m.fn, setL a o' m.cel⟩ v' ∧ VRel G.an G.hb (trk.map (·.1)) frz v v') :
    Re G Φ own σ' h' ⟨m.fn, setL a o' m.cel⟩ trk frz := by
  have hq := r.N (a, o) (List.mem_append_right _ (List.mem_append_right _ (List.mem_append_left _ ha)))
  have nd := r.nd
  rw [List.map_append, List.map_append, List.map_append] at nd
  have hmem : a ∈ m.cel.map (·.1) := List.mem_map_of_mem (f := (·.1)) ha
  have d1 := List.nodup_append.mp nd
  have d2 := List.nodup_append.mp d1.2.1
  have d3 := List.nodup_append.mp d2.2.1
  have n1 : ∀ p ∈ trk, p.1 ≠ a := fun p hp => d1.2.2 p.1 (List.mem_map_of_mem (f := (·.1)) hp) a (List.mem_append_right _ (List.mem_append_left _ hmem))
  have n2 : ∀ p ∈ frz, p.1 ≠ a := fun p hp => d2.2.2 p.1 (List.mem_map_of_mem (f := (·.1)) hp) a (List.mem_append_left _ hmem)
  have n3 : ∀ p ∈ own, p.1 ≠ a := fun p hp => Ne.symm (d3.2.2 a hmem p.1 (List.mem_map_of_mem (f := (·.1)) hp))
  have ext : ∀ b ob, b ≠ a → h.get? b = some ob → h'.get? b = some ob := fun b ob hb e => (hs.2 b hb).trans e
  refine ⟨⟨r.F.ns.sameBut hs (Ne.symm hq.2.1), fun b ob e => ext b ob (fun q => ?_) (r.F.keep b ob e), r.F.above⟩, fun p hp => ?_, ?_, ?_, ?_, ?_, hlo, fun b hb => ?_⟩
  · rw [q, hq.2.2] at e; cases e
  · have key : p.1 ≠ a → p ∈ trk ++ (frz ++ (m.cel ++ own)) → h'.get? p.1 = some p.2 ∧ p.1 ≠ Φ.L ∧ Φ.h₀.get? p.1 = none := fun hne hm => ⟨ext _ _ hne (r.N p hm).1, (r.N p hm).2⟩
    rcases List.mem_append.mp hp with hp | hp
    · exact key (n1 p hp) (List.mem_append_left _ hp)
    · rcases List.mem_append.mp hp with hp | hp
      · exact key (n2 p hp) (List.mem_append_right _ (List.mem_append_left _ hp))
      · rcases List.mem_append.mp hp with hp | hp
        · rcases setL_inv hp with rfl | ⟨hm, hne⟩
          · exact ⟨ho, hq.2⟩
          · exact key hne (List.mem_append_right _ (List.mem_append_right _ (List.mem_append_left _ hm)))
        · exact key (n3 p hp) (List.mem_append_right _ (List.mem_append_right _ (List.mem_append_right _ hp)))
  · rw [List.map_append, List.map_append, List.map_append, setL_keys]; exact nd
  · rw [h1]; exact r.hp
  · rw [h1, h2]; exact r.bd
  · rw [h1, h2]; exact r.hw
  · by_cases e : b = a
    · subst e
      rcases hc with ⟨v, hv⟩ | hc
      · exact ⟨o', v, setL_at ha, hv⟩
      · exact absurd hb hc
    · obtain ⟨ob, v, hm, hd⟩ := r.ca b hb
      exact ⟨ob, v, setL_other hm e, hd⟩

theorem isWr_inv {c : CC} {x : Str} {i : Nat} (h : isWr c x i = true) : c.cm = false ∧ c.ns[i]? = some x ∧ (c.scope.names.lookup x = some .local ∨ c.scope.names.lookup x = some .cell) := by
  simp only [isWr, isLoc, isCel, Bool.and_eq_true, Bool.or_eq_true, Bool.not_eq_true', beq_iff_eq] at h
  exact ⟨h.1.1, h.1.2, h.2⟩

theorem s_store {A : Around} {x : Str} {v : AV} {v' : Value} {i : Nat} {Q : Unit → Shared → Prop} (ok : FmOk G Φ d) (hw : isWr (Φ.cc G) x i = true) (r : Re G Φ own σ s.heap m trk frz) (hv : VR G (trk.map (·.1)) frz v v')
    (q : ∀ h' tk m', Re G Φ own (setLo i v σ) h' m' trk frz → Q () { s with heap := h', toks := tk }) : wpAny (model G.prog G.w) A (storeName Φ.env x v') Q E s := by
  obtain ⟨hcm, hi, hl⟩ := isWr_inv hw
  have lo : ∀ {m' : Nm} {pi : Pl}, Φ.pl[i]? = some pi → pi.reads Φ.C m' v' → (∀ (j : Nat) p w, j ≠ i → Φ.pl[j]? = some p → p.reads Φ.C m w → p.reads Φ.C m' w) →
      ∀ (j : Nat) (w : AV), (setLo i v σ).lo[j]? = some (some w) → ∃ p w', Φ.pl[j]? = some p ∧ p.reads Φ.C m' w' ∧ VRel G.an G.hb (trk.map (·.1)) frz w w' := by
    intro m' pi hpi hrd hot j w e
    unfold setLo at e
    dsimp only at e
    rw [List.getElem?_set] at e
    split at e
    · rename_i hij
      subst hij
      split at e
      · cases e; exact ⟨pi, v', hpi, hrd, hv⟩
      · cases e
    · rename_i hij
      obtain ⟨p, w', hp, hr, hvr⟩ := r.lo j w e
      exact ⟨p, w', hp, hot j p w' (fun q => hij q.symm) hp hr, hvr⟩
  rcases hl with hl | hl
  · obtain ⟨e1, e2⟩ := ok.lo i x hcm hi hl
    refine wpAny_storeName_local hl (by rw [e1]; exact r.F.ns) (fun h' hn hs => ?_) (by rw [ok.ek]; rfl)
    rw [e1] at hn hs
    refine q h' _ ⟨fun y => if y = x then some v' else m.fn y, m.cel⟩ ⟨r.F.set hn hs, r.N.set hs, r.nd, r.hp, r.bd, r.hw, lo e2 (if_pos rfl) (fun j p w hj hp hr => ?_), r.ca⟩
    cases p with
    | loc y =>
      have : y ≠ x := fun e => hj (nd_inj ok.nn hp (e ▸ e2))
      show (if y = x then _ else _) = _
      rw [if_neg this]; exact hr
    | cell b => exact hr
    | cmp y => exact hr
  · obtain ⟨a, e1, e2⟩ := ok.ce i x hi hl
    obtain ⟨o, v₀, ho, hd⟩ := r.ca a (List.mem_of_getElem? e2)
    refine wpAny_storeName_cell ok.ek hl e1 ⟨o, r.trkF ho, hd⟩ fun h' hv' hs => ?_
    obtain ⟨o', ho', hd'⟩ := hv'
    refine q h' _ ⟨m.fn, setL a o' m.cel⟩ (r.setCel ho hs ho' rfl rfl (.inl ⟨_, hd'⟩) (lo e2 ⟨o', setL_at ho, hd'⟩ fun j p w hj hp hr => ?_))
    cases p with
    | loc y => exact hr
    | cell b =>
      obtain ⟨ob, hm, hdb⟩ := hr
      exact ⟨ob, setL_other hm (fun e => hj (nd_inj ok.nn hp (e ▸ e2))), hdb⟩
    | cmp y => exact absurd (List.mem_of_getElem? hp) ((ok.fe hcm).2.2.2 y)

theorem ss_expr {e : Expr} {pos : Pos} {re : St → Out AV} (ok : FmOk G Φ d) (hn : noSwap e = true) (he : SEx G Φ e re) : SSt G Φ (.Expr e pos) (fun fb σ => (re σ).bind fun _ σ => .ok .next (trim fb σ)) := by
  intro fb own σ s m trk frz Q E r hl p
  refine wpAny_Expr_any (he own σ s m trk frz _ E r (p.bind (fun v σ₁ v' h₁ tk₁ trk₁ frz₁ ho r₁ e₁ f₁ v₁ p₁ => ?_) hl)) ?_ (noSwap_eq hn _ _ _)
  · exact PostS.trimmed (E := E) (tk := tk₁) p₁ r₁
  · show (Φ.env.scope.kind == .module && _) = false
    rw [ok.ek]; rfl
theorem ss_asg {n : Str} {pn : Pos} {e : Expr} {pos : Pos} {i : Nat} {re : St → Out AV} (ok : FmOk G Φ d) (hw : isWr (Φ.cc G) n i = true) (hc : swapsWith e (some (.Name n pn)) pos.line Φ.env = pure false) (he : SEx G Φ e re) :
    SSt G Φ (.Assign [.Name n pn] e pos) (fun fb σ => (re σ).bind fun v σ => .ok .next (trim fb (setLo i v σ))) := by
  intro fb own σ s m trk frz Q E r hl p
  refine wpAny_Assign_Name (he own σ s m trk frz _ E r (p.bind (fun v σ₁ v' h₁ tk₁ trk₁ frz₁ ho r₁ e₁ f₁ v₁ p₁ => ?_) hl)) hc
  exact s_store ok hw r₁ v₁ fun h' tk m' r₂ => PostS.trimmed (E := E) (tk := tk) p₁ r₂

theorem ss_ret {e : Expr} {pos : Pos} {re : St → Out AV} (he : SEx G Φ e re) : SSt G Φ (.Return (some e) pos) (fun _ σ => (re σ).bind fun v σ => .ok (.ret v) σ) := by
  intro fb own σ s m trk frz Q E r hl p
  refine wpAny_Return_some (he own σ s m trk frz _ E r (p.bind (fun v σ₁ v' h₁ tk₁ trk₁ frz₁ ho r₁ e₁ f₁ v₁ p₁ => ?_) hl))
  exact PostS.ret (tk := tk₁) p₁ r₁ (.ret v₁)
theorem ss_ret0 {pos : Pos} : SSt G Φ (.Return none pos) (fun _ σ => .ok (.ret (.p .none)) σ) := fun fb own σ s m trk frz Q E r hl p => wpAny_Return_none (PostS.ret (tk := s.toks) p r (.ret (.p .none)))
theorem ss_pass {pos : Pos} : SSt G Φ (.Pass pos) (fun _ σ => .ok .next σ) := fun fb own σ s m trk frz Q E r hl p => wpAny_Pass (PostS.ret (tk := s.toks) p r .next)
theorem ss_brk {pos : Pos} : SSt G Φ (.Break pos) (fun _ σ => .ok .brk σ) := fun fb own σ s m trk frz Q E r hl p => wpAny_Break (PostS.ret (tk := s.toks) p r .brk)
theorem ss_cont {pos : Pos} : SSt G Φ (.Continue pos) (fun _ σ => .ok .cont σ) := fun fb own σ s m trk frz Q E r hl p => wpAny_Continue (PostS.ret (tk := s.toks) p r .cont)

theorem PostS.later {fb : Nat} {o : Out Fl} {Q : Flow → Shared → Prop} {trk₁ frz₁ : Led} {h₁ : Heap} {tk₁ : Nat} (h : PostS G Φ own fb trk frz s o Q E) (hp : (trk.map (·.1)).take fb <+: trk₁.map (·.1)) (hf : ∀ q ∈ frz, q ∈ frz₁) (hl : fb ≤ trk.length) :
    PostS G Φ own fb trk₁ frz₁ { s with heap := h₁, toks := tk₁ } o Q E := by
  have e : (trk.map (·.1)).take fb = (trk₁.map (·.1)).take fb := by
    have := take_prefix hp
    rw [List.length_take, List.length_map, Nat.min_eq_left hl] at this
    exact this.symm
  cases o with
  | ok a' σ' => exact fun b₂ h₂ tk₂ m₂ trk₂ frz₂ r₂ p₂ q₂ v₂ => h b₂ h₂ tk₂ m₂ trk₂ frz₂ r₂ (by rw [e]; exact p₂) (fun x hx => q₂ x (hf x hx)) v₂
  | exc x σ' => exact fun e₂ h₂ tk₂ m₂ trk₂ frz₂ r₂ p₂ q₂ => h e₂ h₂ tk₂ m₂ trk₂ frz₂ r₂ (by rw [e]; exact p₂) (fun x hx => q₂ x (hf x hx))
  | stuck => exact h
theorem len_keep {fb : Nat} {trk₁ : Led} (hp : (trk.map (·.1)).take fb <+: trk₁.map (·.1)) (hl : fb ≤ trk.length) : fb ≤ trk₁.length := by
  have := hp.length_le
  rw [List.length_take, List.length_map, List.length_map, Nat.min_eq_left hl] at this
  exact this
theorem len_pre {fb : Nat} {trk₁ : Led} (hp : trk.map (·.1) <+: trk₁.map (·.1)) (hl : fb ≤ trk.length) : fb ≤ trk₁.length := len_keep ((List.take_prefix _ _).trans hp) hl

theorem ss_ite {t : Expr} {a b : List Stmt} {pos : Pos} {rt : St → Out Bool} {ra rb : Nat → St → Out Fl} (ht : STs G Φ t rt) (ha : SSts G Φ a ra) (hb : SSts G Φ b rb) :
    SSt G Φ (.If t a b pos) (fun fb σ => (rt σ).bind fun r σ => match r with | true => ra fb (trim fb σ) | false => rb fb (trim fb σ)) := by
  intro fb own σ s m trk frz Q E r hl p
  refine wpAny_If (ht own σ s m trk frz _ E r (p.bind (fun v σ₁ v' h₁ tk₁ trk₁ frz₁ ho r₁ e₁ f₁ v₁ p₁ => ?_) hl))
  subst v₁
  obtain ⟨n, hn, r'⟩ := r₁.trim fb
  have hl₁ := len_pre e₁ hl
  have hl₂ : fb ≤ (trk₁.take n).length := by rw [List.length_take]; exact Nat.le_min.mpr ⟨hn, hl₁⟩
  cases v with
  | true => exact ha fb own _ _ m _ frz₁ Q E r' hl₂ (PostS.later p₁ (take_keep hn) (fun _ q => q) hl₁)
  | false => exact hb fb own _ _ m _ frz₁ Q E r' hl₂ (PostS.later p₁ (take_keep hn) (fun _ q => q) hl₁)
end
end Mine
namespace Mine
open PySem PySem.W PyProof.Rows PySem.Calls PySem.SeqAt

section
variable {G : Gl} {Φ : Fm} {d : Nat} {own : Led} {σ : St} {h h' : Heap} {m : Nm} {trk frz : Led} {s : Shared} {E : Value → Shared → Prop}

theorem PostS.seq {fb : Nat} {o : Out Fl} {k : Fl → St → Out Fl} {Q Q' : Flow → Shared → Prop} (h : PostS G Φ own fb trk frz s (o.bind k) Q E) (hl : fb ≤ trk.length)
    (step : ∀ a σ₁ b h₁ tk₁ m₁ trk₁ frz₁, o = .ok a σ₁ → Re G Φ own σ₁ h₁ m₁ trk₁ frz₁ → (trk.map (·.1)).take fb <+: trk₁.map (·.1) → (∀ q ∈ frz, q ∈ frz₁) → FlR G (trk₁.map (·.1)) frz₁ a b →
      PostS G Φ own fb trk₁ frz₁ { s with heap := h₁, toks := tk₁ } (k a σ₁) Q E → Q' b { s with heap := h₁, toks := tk₁ }) : PostS G Φ own fb trk frz s o Q' E := by
  cases o with
  | ok a σ => exact fun b h' tk' m' trk' frz' r p q v => step a σ b h' tk' m' trk' frz' rfl r p q v (PostS.later h p q hl)
  | exc x σ => exact h
  | stuck => exact h

theorem ss_nil : SSts G Φ [] (fun _ σ => .ok .next σ) := fun fb own σ s m trk frz Q E r hl p => wpAny_execs_nil (PostS.ret (tk := s.toks) p r .next)
theorem ss_cons {a : Stmt} {l : List Stmt} {ra rl : Nat → St → Out Fl} (ha : SSt G Φ a ra) (hl : SSts G Φ l rl) :
    SSts G Φ (a :: l) (fun fb σ => (ra fb σ).bind fun f σ => andThen (fun σ => rl fb σ) f σ) := by
  intro fb own σ s m trk frz Q E r hf p
  refine wpAny_execs_cons (ha fb own σ s m trk frz _ E r hf (p.seq hf fun f σ₁ f' h₁ tk₁ m₁ trk₁ frz₁ ho r₁ e₁ f₁ v₁ p₁ => ?_))
  cases v₁ with
  | next => exact hl fb own σ₁ _ m₁ trk₁ frz₁ Q E r₁ (len_keep e₁ hf) p₁
  | brk => exact PostS.ret (tk := tk₁) p₁ r₁ .brk
  | cont => exact PostS.ret (tk := tk₁) p₁ r₁ .cont
  | ret v => exact PostS.ret (tk := tk₁) p₁ r₁ (.ret v)

theorem s_whl {P : Prg} {n : Nat} {t : Expr} {b : List Stmt} {z : Ex} {x : Sx} {pos : Pos} (ok : FmOk G Φ d) (hc : Φ.cm = false) (ht : ∀ j, j < n → STs G Φ t ((ev P j d).tst z)) (hb : ∀ j, j < n → SSts G Φ b (fun fb => (ev P j d).sts fb x)) : SSt G Φ (.While t b [] pos) (fun fb => (ev P n d).whl fb z x) := by
  intro fb own σ s m trk frz Q E r hl p
  refine wpAny_While (codeAny_whileLoop (fun k s' => k ≤ n ∧ ∃ h₁ tk₁ m₁ trk₁ frz₁ σ₁, s' = { s with heap := h₁, toks := tk₁ } ∧ Re G Φ own σ₁ h₁ m₁ trk₁ frz₁ ∧ fb ≤ trk₁.length ∧ PostS G Φ own fb trk₁ frz₁ { s with heap := h₁, toks := tk₁ } ((ev P k d).whl fb z x σ₁) Q E) ?_ n
    ⟨Nat.le_refl _, s.heap, s.toks, m, trk, frz, σ, rfl, r, hl, p⟩)
  rintro k _ ⟨hk, h₁, tk₁, m₁, trk₁, frz₁, σ₁, rfl, r₁, hf, p₁⟩
  cases k with
  | zero => exact p₁.elim
  | succ j =>
    have p₁ : PostS G Φ own fb trk₁ frz₁ { s with heap := h₁, toks := tk₁ } (whlStep (ev P j) d fb z x σ₁) Q E := p₁
    refine ht j hk own σ₁ _ m₁ trk₁ frz₁ _ _ r₁ (Post.passes ok hc (PostS.bind (E := E) p₁ (fun v σ₂ v' h₂ tk₂ trk₂ frz₂ ho r₂ e₂ f₂ v₂ p₂ => ?_) hf))
    subst v₂
    have hf₂ := len_pre e₂ hf
    cases v with
    | false => exact wpAny_execs_nil (PostS.ret (tk := tk₂) p₂ r₂ .next)
    | true =>
      refine hb j hk fb own σ₂ _ m₁ trk₂ frz₂ _ _ r₂ hf₂ ?_
      refine PostS.passes ok hc (PostS.seq p₂ hf₂ fun f σ₃ f' h₃ tk₃ m₃ trk₃ frz₃ ho₃ r₃ e₃ f₃ v₃ p₃ => ?_)
      cases v₃ with
      | next => exact ⟨j, Nat.lt_succ_self _, Nat.le_of_lt hk, h₃, tk₃, m₃, trk₃, frz₃, σ₃, rfl, r₃, len_keep e₃ hf₂, p₃⟩
      | cont => exact ⟨j, Nat.lt_succ_self _, Nat.le_of_lt hk, h₃, tk₃, m₃, trk₃, frz₃, σ₃, rfl, r₃, len_keep e₃ hf₂, p₃⟩
      | brk => exact PostS.ret (tk := tk₃) p₃ r₃ .next
      | ret v => exact PostS.ret (tk := tk₃) p₃ r₃ (.ret v)
end
end Mine
namespace Mine
open PySem PySem.W PyProof.Rows PySem.Calls PySem.SeqAt

/-- the cells that a comprehension takes along -/
noncomputable def closA (env : Env) : List (Str × NameKind) → List (Str × Addr) → List (Str × Addr)
  | [], acc => acc
  | (n, k) :: r, acc => closA env r (if k == .free then (n, (env.cells.lookup n).getD 0) :: acc else acc)
theorem closA_for {env : Env} : ∀ {names : List (Str × NameKind)} {acc : List (Str × Addr)}, (∀ y ∈ names, y.2 = .free → (env.cells.lookup y.1).isSome = true) →
    (forIn names acc fun (x : Str × NameKind) cs => (do if (x.2 == NameKind.free) = true then do let a ← cellOf env x.1; pure (ForInStep.yield ((x.1, a) :: cs)) else pure (ForInStep.yield cs) : Sem _)) = pure (closA env names acc)
  | [], acc, _ => rfl
  | (n, k) :: r, acc, h => by
    rw [List.forIn_cons]
    have ih := fun acc => closA_for (env := env) (names := r) (acc := acc) fun y hy => h y (.tail _ hy)
    cases hk : k == NameKind.free with
    | false =>
      have e : closA env ((n, k) :: r) acc = closA env r acc := by simp [closA, hk]
      rw [e, ← ih acc]
      simp only [hk, Bool.false_eq_true, if_false]
      rfl
    | true =>
      have hs := h (n, k) (.head _) (by simpa using hk)
      obtain ⟨a, ha⟩ := Option.isSome_iff_exists.mp hs
      dsimp only at ha
      have e : closA env ((n, k) :: r) acc = closA env r ((n, a) :: acc) := by simp [closA, hk, ha]
      rw [e, ← ih]
      have hc : cellOf env n = pure a := by unfold cellOf; rw [ha]
      simp only [hk, if_true, hc]
      rfl
theorem closureFor_all {env : Env} {sc : Scope} (h : ∀ y ∈ sc.names, y.2 = .free → (env.cells.lookup y.1).isSome = true) : closureFor sc env = pure (closA env sc.names []) := by
  have := closA_for (env := env) (names := sc.names) (acc := []) h
  unfold closureFor
  have e : (forIn sc.names [] fun (x : Str × NameKind) cs => (do if (x.2 == NameKind.free) = true then do let a ← cellOf env x.1; pure (ForInStep.yield ((x.1, a) :: cs)) else pure (ForInStep.yield cs) : Sem _)) >>= (fun cs => pure cs) = pure (closA env sc.names []) := by
    rw [this]; rfl
  exact e
theorem closA_look {env : Env} {x : Str} {a : Addr} (hx : env.cells.lookup x = some a) : ∀ {names : List (Str × NameKind)} {acc : List (Str × Addr)}, (acc.lookup x = none ∨ acc.lookup x = some a) → (acc.lookup x = some a ∨ (x, NameKind.free) ∈ names) → (closA env names acc).lookup x = some a
  | [], acc, h1, h2 => by
    rcases h2 with h2 | h2
    · exact h2
    · cases h2
  | (n, k) :: r, acc, h1, h2 => by
    unfold closA
    cases hk : k == NameKind.free with
    | false =>
      simp only [Bool.false_eq_true, if_false]
      refine closA_look hx h1 (h2.imp id fun hm => ?_)
      rcases List.mem_cons.mp hm with e | e
      · cases e; simp at hk
      · exact e
    | true =>
      simp only [if_true]
      by_cases e : x = n
      · subst e
        refine closA_look hx (.inr ?_) (.inl ?_) <;> simp [List.lookup_cons, hx]
      · have hb : (x == n) = false := by simpa using e
        refine closA_look hx ?_ ?_
        · simpa [List.lookup_cons, hb] using h1
        · refine h2.imp (fun q => by simpa [List.lookup_cons, hb] using q) fun hm => ?_
          rcases List.mem_cons.mp hm with q | q
          · cases q; exact absurd rfl e
          · exact q

noncomputable def Fm.inner (Φ : Fm) (sc : Scope) (x : Str) (C : Addr) : Fm := { Φ with env := compEnvC sc (closA Φ.env sc.names []) C Φ.env, C := C, pl := Φ.pl ++ [.cmp x], cv := [x], cm := true }

section
variable {G : Gl} {Φ : Fm} {d : Nat} {own : Led} {σ : St} {h h' : Heap} {m : Nm} {trk frz : Led} {s : Shared} {E : Value → Shared → Prop} {c : CC}

structure CompSc (c : CC) (sc : Scope) (x : Str) : Prop where
  cm : c.cm = false
  kind : sc.kind = .function
  cell : ∀ y ∈ sc.names, y.2 ≠ .cell
  free : ∀ y ∈ sc.names, y.2 = .free → c.scope.names.lookup y.1 = some .cell ∧ y.1 ∈ c.ns
  loc : ∀ y ∈ sc.names, y.2 = .local → sc.names.lookup y.1 = some .local
  var : sc.names.lookup x = some .local
theorem compSc_sound {sc : Scope} {x : Str} (h : compSc c sc x = true) : CompSc c sc x := by
  unfold compSc at h
  simp only [Bool.and_eq_true, Bool.not_eq_true', List.all_eq_true] at h
  obtain ⟨⟨⟨h1, h2⟩, h3⟩, h4⟩ := h
  refine ⟨h1, ?_, fun y hy e => ?_, fun y hy e => ?_, fun y hy e => ?_, by simpa using h4⟩
  · cases hk : sc.kind <;> rw [hk] at h2 <;> first | rfl | cases h2
  · have := h3 y hy; rw [e] at this; cases this
  · have := h3 y hy; rw [e] at this
    simp only [Bool.and_eq_true] at this
    exact ⟨by simpa using this.1, by simpa using this.2⟩
  · have := h3 y hy; rw [e] at this; simpa using this

theorem relab_cell {fs : Env} {x : Str} : ∀ {names : List (Str × NameKind)}, (∀ y ∈ names, y.2 ≠ .cell) → (names.map fun (n, k) => if (k == NameKind.free && fs.scope.kind == .function && fs.kindOf n == some .cell) = true then (n, NameKind.cell) else (n, k)).lookup x = some .cell →
    (x, NameKind.free) ∈ names ∧ fs.kindOf x = some .cell
  | [], _, h => by cases h
  | (n, k) :: r, hc, h => by
    rw [List.map_cons] at h
    dsimp only at h
    by_cases hk : (k == NameKind.free && fs.scope.kind == .function && fs.kindOf n == some .cell) = true
    · rw [if_pos hk, List.lookup_cons] at h
      simp only [Bool.and_eq_true] at hk
      split at h
      · rename_i e
        have e := eq_of_beq e
        subst e
        have : k = .free := by simpa using hk.1.1
        subst this
        exact ⟨.head _, by simpa using hk.2⟩
      · obtain ⟨a, b⟩ := relab_cell (names := r) (fun y hy => hc y (.tail _ hy)) h
        exact ⟨.tail _ a, b⟩
    · rw [if_neg hk, List.lookup_cons] at h
      split at h
      · have : k = .cell := by simpa using h
        exact absurd this (hc (n, k) (.head _))
      · obtain ⟨a, b⟩ := relab_cell (names := r) (fun y hy => hc y (.tail _ hy)) h
        exact ⟨.tail _ a, b⟩

theorem FmOk.inner {sc : Scope} {x : Str} {C : Addr} (ok : FmOk G Φ d) (hs : CompSc (Φ.cc G) sc x) : FmOk G (Φ.inner sc x C) d := by
  obtain ⟨fe1, fe2, fe3, fe4⟩ := ok.fe hs.cm
  refine ⟨ok.B, ok.X, ok.T, ok.kb, ok.Kb, ok.fn, ok.dp, ok.un, ok.hd, ?_, ok.na, hs.kind, ok.eg, ok.eb, fun _ _ h _ _ => (by cases h), fun i y hi hl => ?_, fun j y _ hj hl => ?_, fun h => (by cases h), ok.tp⟩
  · refine List.nodup_append.mpr ⟨ok.nn, by simp, fun a ha b hb e => ?_⟩
    rw [List.mem_singleton.mp hb] at e
    exact fe4 x (e ▸ ha)
  · obtain ⟨h1, h2⟩ := relab_cell hs.cell hl
    obtain ⟨a, ha, hp⟩ := ok.ce i y hi h2
    refine ⟨a, closA_look ha (.inl rfl) (.inr h1), ?_⟩
    show (Φ.pl ++ [_])[i]? = _
    rw [List.getElem?_append_left (List.getElem?_eq_some_iff.mp hp).1]; exact hp
  · cases j with
    | zero =>
      cases hj
      refine ⟨rfl, ?_⟩
      show (Φ.pl ++ [Pl.cmp x])[Φ.ns.length + 0]? = _
      rw [← fe3]; simp
    | succ j => simp [Fm.inner] at hj

theorem Re.celAt (r : Re G Φ own σ h m trk frz) {a : Addr} {o : Obj} (hq : (a, o) ∈ m.cel) : h.get? a = some o :=
  (r.N (a, o) (List.mem_append_right _ (List.mem_append_right _ (List.mem_append_left _ hq)))).1
theorem Re.permOwn {own' : Led} (r : Re G Φ own σ h m trk frz) (hp : own.Perm own') : Re G Φ own' σ h m trk frz := by
  refine ⟨r.F, newsSub r.N fun p q => ?_, ?_, r.hp, r.bd, r.hw, r.lo, r.ca⟩
  · simp only [List.mem_append] at q ⊢
    rcases q with q | q | q | q
    · simp [q]
    · simp [q]
    · simp [q]
    · have := hp.mem_iff.mpr q; simp [this]
  · exact (List.Perm.nodup_iff ((List.Perm.append_left _ (List.Perm.append_left _ (List.Perm.append_left _ hp))).map _)).mp r.nd
theorem Re.swapOwn {a b : Addr × Obj} (r : Re G Φ (a :: b :: own) σ h m trk frz) : Re G Φ (b :: a :: own) σ h m trk frz := r.permOwn (List.Perm.swap ..)
theorem Re.ownT {l : Addr} {o : Obj} {ao : AO} (r : Re G Φ ((l, o) :: own) σ h m trk frz) (hv : ORel G.an G.w.params G.hb (trk.map (·.1)) frz ao o) (hb : ao.bd ≤ σ.hp.length) : Re G Φ own { σ with hp := σ.hp ++ [ao] } h m (trk ++ [(l, o)]) frz := by
  refine r.drop.pushT' r.F (newsSub r.N fun p hp => ?_) (fun p hp => r.own_ne hp) hv hb
  simp only [List.mem_append, List.mem_cons] at hp ⊢
  rcases hp with hp | hp | hp | hp | hp <;> simp [hp]

theorem newLst_own {l : List AV} {vs : List Value} {D : Addr} {Q : Value → Shared → Prop} {tk : Nat} {n : Nat} (r : Re G Φ ((D, listOf vs.toArray n) :: own) σ s.heap m trk frz) (hv : All2 (VR G (trk.map (·.1)) frz) l vs) (p : Post (VR G) G Φ own m trk frz s (newLst l σ) Q E) : Q (.ref D) { s with toks := tk } := by
  unfold newLst at p
  split at p
  · have hb := bds_of (G := G) hv
    have r' := r.ownT (.lst hv) (by have := r.len; simp only [List.length_map] at hb; show bds l ≤ _; omega)
    refine p (.ref D) s.heap tk _ frz r' ⟨[D], by simp⟩ (fun _ q => q) (.obj ?_)
    rw [List.map_append, List.getElem?_append_right (by have := r.len; simp; omega)]
    have := r.len
    simp [this]
  · exact p.elim

theorem NsObj.of {h : Heap} {a : Addr} {mm : Str → Option Value} (n : h.Ns a mm) : ∃ o, h.get? a = some o ∧ NsObj o mm := by
  obtain ⟨o, es, ep, ho, hd, k, r⟩ := n
  exact ⟨o, ho, fun h' a' e => ⟨o, es, ep, e, hd, k, r⟩⟩

/-- into a comprehension -/
theorem Re.inC {sc : Scope} {x : Str} {C : Addr} {oC : Obj} (ok : FmOk G Φ d) (hcm : Φ.cm = false) (r : Re G Φ ((C, oC) :: own) σ h m trk frz) : Re G (Φ.inner sc x C) own σ h ⟨m.fn, (C, oC) :: m.cel⟩ trk frz := by
  refine ⟨r.F, newsSub r.N fun p hp => ?_, ?_, r.hp, r.bd, r.hw, fun i v e => ?_, fun a ha => ?_⟩
  · simp only [List.mem_append, List.mem_cons] at hp ⊢
    rcases hp with hp | hp | (hp | hp) | hp <;> simp [hp]
  · refine (List.Perm.nodup_iff (List.Perm.map _ (List.Perm.append_left _ (List.Perm.append_left _ ?_)))).mp r.nd
    exact List.perm_middle
  · obtain ⟨p, v', hp, hr, hv⟩ := r.lo i v e
    refine ⟨p, v', ?_, ?_, hv⟩
    · show (Φ.pl ++ [_])[i]? = _
      rw [List.getElem?_append_left (List.getElem?_eq_some_iff.mp hp).1]; exact hp
    · cases p with
      | loc y => exact hr
      | cell a => obtain ⟨o, ho, hd⟩ := hr; exact ⟨o, .tail _ ho, hd⟩
      | cmp y => exact absurd (List.mem_of_getElem? hp) ((ok.fe hcm).2.2.2 y)
  · rcases List.mem_append.mp ha with ha | ha
    · obtain ⟨o, v, ho, hd⟩ := r.ca a ha; exact ⟨o, v, .tail _ ho, hd⟩
    · simp at ha

/-- out of it -/
theorem Re.outC {sc : Scope} {x : Str} {C : Addr} {oC : Obj} {i : Nat} (ok : FmOk G Φ d) (hcm : Φ.cm = false) (hi : i = Φ.ns.length) (r : Re G (Φ.inner sc x C) own σ h ⟨m.fn, (C, oC) :: m.cel⟩ trk frz) (ca : ∀ a, Pl.cell a ∈ Φ.pl → a ∈ m.cel.map (·.1)) : Re G Φ ((C, oC) :: own) (unLo i σ) h m trk frz := by
  obtain ⟨fe1, fe2, fe3, fe4⟩ := ok.fe hcm
  have hnd : C ∉ m.cel.map (·.1) := by
    have := r.nd
    rw [List.map_append, List.map_append, List.map_append, List.map_cons] at this
    have d1 := (List.nodup_append.mp (List.nodup_append.mp (List.nodup_append.mp this).2.1).2.1).1
    exact (List.nodup_cons.mp d1).1
  refine ⟨r.F, newsSub r.N fun p hp => ?_, ?_, r.hp, r.bd, r.hw, fun j v e => ?_, fun a ha => ?_⟩
  · simp only [List.mem_append, List.mem_cons] at hp ⊢
    rcases hp with hp | hp | hp | hp | hp <;> simp [hp]
  · refine (List.Perm.nodup_iff (List.Perm.map _ (List.Perm.append_left _ (List.Perm.append_left _ ?_)))).mpr r.nd
    exact List.perm_middle
  · unfold unLo at e
    dsimp only at e
    rw [List.getElem?_set] at e
    split at e
    · split at e <;> cases e
    · rename_i hne
      obtain ⟨p, v', hp, hr, hv⟩ := r.lo j v e
      have hp : (Φ.pl ++ [Pl.cmp x])[j]? = some p := hp
      have hj : j < Φ.pl.length := by
        have := (List.getElem?_eq_some_iff.mp hp).1
        simp only [List.length_append, List.length_cons, List.length_nil] at this
        rw [fe3] at this ⊢
        omega
      rw [List.getElem?_append_left hj] at hp
      refine ⟨p, v', hp, ?_, hv⟩
      cases p with
      | loc y => exact hr
      | cell a =>
        obtain ⟨o, ho, hd⟩ := hr
        rcases List.mem_cons.mp ho with q | q
        · cases q
          exact absurd (ca _ (List.mem_of_getElem? hp)) hnd
        · exact ⟨o, q, hd⟩
      | cmp y => exact absurd (List.mem_of_getElem? hp) (fe4 y)
  · obtain ⟨o, v, ho, hd⟩ := r.ca a (List.mem_append_left _ ha)
    rcases List.mem_cons.mp ho with q | q
    · cases q; exact absurd (ca _ ha) hnd
    · exact ⟨o, v, q, hd⟩
end
end Mine
namespace Mine
open PySem PySem.W PyProof.Rows PySem.Calls PySem.SeqAt

/-- an iterator -/
structure Iter (G : Gl) (Φ : Fm) (it : Addr) (IT : Nat → Obj → Prop) (V : List Addr → Led → Prop) (nth : Nat → St → Option (Option AV)) : Prop where
  item : ∀ k σ y own (s : Shared) m trk frz o Q E, IT k o → nth k σ = some (some y) → V (trk.map (·.1)) frz → Re G Φ ((it, o) :: own) σ s.heap m trk frz →
    (∀ y' h' tk o', IT (k + 1) o' → VR G (trk.map (·.1)) frz y y' → Re G Φ ((it, o') :: own) σ h' m trk frz → Q (some y') { s with heap := h', toks := tk }) → wpAny (model G.prog G.w) Φ.A (pyNext (.ref it)) Q E s
  fin : ∀ k σ own (s : Shared) m trk frz o Q E, IT k o → nth k σ = some none → V (trk.map (·.1)) frz → Re G Φ ((it, o) :: own) σ s.heap m trk frz →
    (∀ h', Re G Φ own σ h' m trk frz → Q none { s with heap := h' }) → wpAny (model G.prog G.w) Φ.A (pyNext (.ref it)) Q E s
  self : ∀ k o (s : Shared) Q E, IT k o → s.heap.get? it = some o → Q (.ref it) s → wpAny (model G.prog G.w) Φ.A (pyIter (.ref it)) Q E s

section
variable {G : Gl} {Φ : Fm} {d : Nat} {own : Led} {σ : St} {h h' : Heap} {m : Nm} {trk frz : Led} {s : Shared} {E : Value → Shared → Prop}

theorem next_list {it a : Addr} {v : AV} {k : Nat} {own : Led} {o : Obj} (ok : FmOk G Φ d) (hnt : ∀ l, v ≠ .p (.tup l)) (hIT : o.cls = .type "list_iterator" ∧ o.data = .fields #[.ref a, .int k 0]) (hv : VR G (trk.map (·.1)) frz v (.ref a)) (r : Re G Φ ((it, o) :: own) σ s.heap m trk frz) {l : List AV} (hi : itemsOf σ v = some l) :
    (∀ y Q E, l[k]? = some y → (∀ y' h' tk o', (o'.cls = .type "list_iterator" ∧ o'.data = .fields #[.ref a, .int ((k + 1 : Nat) : Int) 0]) → VR G (trk.map (·.1)) frz y y' → Re G Φ ((it, o') :: own) σ h' m trk frz → Q (some y') { s with heap := h', toks := tk }) → wpAny (model G.prog G.w) Φ.A (pyNext (.ref it)) Q E s) ∧
    (∀ Q E, l[k]? = none → (∀ h', Re G Φ own σ h' m trk frz → Q none { s with heap := h' }) → wpAny (model G.prog G.w) Φ.A (pyNext (.ref it)) Q E s) := by
  have hi' : lstOf σ v = some l := by
    rcases itemsOf_inv hi with ⟨ps, q, _⟩ | ⟨_, q⟩
    · exact absurd q (hnt _)
    · exact q
  obtain ⟨a', vs, e, h1, h2⟩ := lst_at ok r hv hi'
  cases e
  have hit : s.heap.IsListIter it a k := ⟨o, r.mem_own.1, hIT⟩
  constructor
  · intro y Q E hy hQ
    obtain ⟨y', hy', hr⟩ := h1.get hy
    refine wpAny_pyNext_list_item hit h2 (by rw [List.getElem?_toArray]; exact hy') fun h₁ hit₁ hs₁ => ?_
    obtain ⟨o', ho', hc'⟩ := hit₁
    exact hQ y' h₁ s.toks o' hc' hr (r.reown hs₁.extBut ho')
  · intro Q E hy hQ
    refine wpAny_pyNext_list_end (by exact ok.hd) hit h2 ?_ fun h₁ hs₁ => hQ h₁ (r.but hs₁)
    rw [List.getElem?_toArray]
    exact List.getElem?_eq_none (by rw [← h1.length]; exact List.getElem?_eq_none_iff.mp hy)

theorem next_tuple {it a : Addr} {l : List PV} {k : Nat} {own : Led} {o : Obj} (ok : FmOk G Φ d) (hIT : o.cls = .type "tuple_iterator" ∧ o.data = .fields #[.ref a, .int k 0]) (hv : VR G (trk.map (·.1)) frz (.p (.tup l)) (.ref a)) (r : Re G Φ ((it, o) :: own) σ s.heap m trk frz) :
    (∀ y Q E, (l.map AV.p)[k]? = some y → (∀ y' h' tk o', (o'.cls = .type "tuple_iterator" ∧ o'.data = .fields #[.ref a, .int ((k + 1 : Nat) : Int) 0]) → VR G (trk.map (·.1)) frz y y' → Re G Φ ((it, o') :: own) σ h' m trk frz → Q (some y') { s with heap := h', toks := tk }) → wpAny (model G.prog G.w) Φ.A (pyNext (.ref it)) Q E s) ∧
    (∀ Q E, (l.map AV.p)[k]? = none → (∀ h', Re G Φ own σ h' m trk frz → Q none { s with heap := h' }) → wpAny (model G.prog G.w) Φ.A (pyNext (.ref it)) Q E s) := by
  obtain ⟨vs, h1, h2⟩ : ∃ vs, All2 (VR G (trk.map (·.1)) frz) (l.map AV.p) vs ∧ s.heap.IsTuple a vs.toArray := by
    cases hv with | p hv =>
      cases hv with | tup ha hc hd hr =>
        exact ⟨_, up_all2 hr.all2, _, r.at ok ha, hc, _, hd⟩
  have hit : s.heap.IsTupleIter it a k := ⟨o, r.mem_own.1, hIT⟩
  constructor
  · intro y Q E hy hQ
    obtain ⟨y', hy', hr⟩ := h1.get hy
    refine wpAny_pyNext_tuple_item hit h2 (by rw [List.getElem?_toArray]; exact hy') fun h₁ hit₁ hs₁ => ?_
    obtain ⟨o', ho', hc'⟩ := hit₁
    exact hQ y' h₁ s.toks o' hc' hr (r.reown hs₁.extBut ho')
  · intro Q E hy hQ
    refine wpAny_pyNext_tuple_end (by exact ok.hd) hit h2 ?_ fun h₁ hs₁ => hQ h₁ (r.but hs₁)
    rw [List.getElem?_toArray]
    exact List.getElem?_eq_none (by rw [← h1.length]; exact List.getElem?_eq_none_iff.mp hy)

theorem iter_list {it a : Addr} {v : AV} (ok : FmOk G Φ d) (hnt : ∀ l, v ≠ .p (.tup l)) : Iter G Φ it (fun k o => o.cls = .type "list_iterator" ∧ o.data = .fields #[.ref a, .int k 0]) (fun ι frz => VR G ι frz v (.ref a)) (srcAt (.seq v)) := by
  refine ⟨fun k σ y own s m trk frz o Q E hIT hk hv r hQ => ?_, fun k σ own s m trk frz o Q E hIT hk hv r hQ => ?_, fun k o s Q E hIT ho q => wpAny_pyIter_listiter ⟨o, ho, hIT⟩ q⟩
  · unfold srcAt at hk
    dsimp only at hk
    cases hi : itemsOf σ v with
    | none => rw [hi] at hk; cases hk
    | some l =>
      rw [hi] at hk
      exact (next_list ok hnt hIT hv r hi).1 y Q E (by cases hk' : l[k]? <;> simp [hk'] at hk ⊢; exact hk) hQ
  · unfold srcAt at hk
    dsimp only at hk
    cases hi : itemsOf σ v with
    | none => rw [hi] at hk; cases hk
    | some l =>
      rw [hi] at hk
      exact (next_list ok hnt hIT hv r hi).2 Q E (by cases hk' : l[k]? <;> simp [hk'] at hk ⊢) hQ
theorem iter_tuple {it a : Addr} {l : List PV} (ok : FmOk G Φ d) : Iter G Φ it (fun k o => o.cls = .type "tuple_iterator" ∧ o.data = .fields #[.ref a, .int k 0]) (fun ι frz => VR G ι frz (.p (.tup l)) (.ref a)) (srcAt (.seq (.p (.tup l)))) := by
  refine ⟨fun k σ y own s m trk frz o Q E hIT hk hv r hQ => ?_, fun k σ own s m trk frz o Q E hIT hk hv r hQ => ?_, fun k o s Q E hIT ho q => wpAny_pyIter_tupleiter ⟨o, ho, hIT⟩ q⟩
  · refine (next_tuple ok hIT hv r).1 y Q E ?_ hQ
    have hk : some (l.map AV.p)[k]? = some (some y) := hk
    exact Option.some.inj hk
  · refine (next_tuple ok hIT hv r).2 Q E ?_ hQ
    have hk : some (l.map AV.p)[k]? = some none := hk
    exact Option.some.inj hk
theorem iter_range {it : Addr} {n : Nat} (ok : FmOk G Φ d) : Iter G Φ it (fun j o => j ≤ n ∧ o = { cls := .type "range_iterator", dict := none, data := .fields #[rawInt (j : Int), rawInt ((n : Int) - j), rawInt 1], slots := #[] }) (fun _ _ => True) (srcAt (.rng n)) := by
  refine ⟨fun j σ y own s m trk frz o Q E hIT hj hv r hQ => ?_, fun j σ own s m trk frz o Q E hIT hj hv r hQ => ?_, fun k o s Q E hIT ho q => ?_⟩
  · obtain ⟨hle, rfl⟩ := hIT
    unfold srcAt at hj
    dsimp only at hj
    cases hjl : Nat.blt j n with
    | false => rw [hjl] at hj; cases hj
    | true =>
      rw [hjl] at hj
      cases hj
      have hjl := Nat.le_of_ble_eq_true hjl
      refine wpAny_pyNext_range_item r.mem_own.1 (by omega) fun h₁ hit₁ hs₁ => ?_
      refine hQ _ h₁ _ _ ⟨hjl, rfl⟩ (.p (.int _ _)) (r.reown hs₁.extBut ?_)
      rw [hit₁]
      have e1 : ((j : Int) + 1) = ((j + 1 : Nat) : Int) := by omega
      have e2 : (n : Int) - (j : Int) - 1 = (n : Int) - ((j + 1 : Nat) : Int) := by omega
      rw [e1, e2]
  · obtain ⟨hle, rfl⟩ := hIT
    unfold srcAt at hj
    dsimp only at hj
    cases hjl : Nat.blt j n with
    | true => rw [hjl] at hj; cases hj
    | false =>
      have hjl := X.blt_false hjl
      exact wpAny_pyNext_range_end (by exact ok.hd) r.mem_own.1 (by omega) fun h₁ hs₁ => hQ h₁ (r.but hs₁)
  · obtain ⟨hle, rfl⟩ := hIT
    exact wpAny_pyIter_rangeiter ho q

theorem rev_at {l : List PV} {vs : List Value} {ι : List Addr} {frz : Led} {k : Nat} (h : All2 (VR G ι frz) (l.map AV.p) vs) : (∀ y, (l.reverse.map AV.p)[k]? = some y → k < vs.length ∧ ∃ y', vs[vs.length - 1 - k]? = some y' ∧ VR G ι frz y y') ∧ ((l.reverse.map AV.p)[k]? = none → vs.length ≤ k) := by
  have hl := h.length
  rw [List.length_map] at hl
  constructor
  · intro y hy
    rw [List.map_reverse] at hy
    have hk : k < l.length := by
      have := (List.getElem?_eq_some_iff.mp hy).1
      simpa using this
    rw [List.getElem?_reverse (by simpa using hk)] at hy
    obtain ⟨y', h1, h2⟩ := h.get hy
    rw [List.length_map, hl] at h1
    exact ⟨by omega, y', h1, h2⟩
  · intro hn
    have := List.getElem?_eq_none_iff.mp hn
    simp at this
    omega
theorem iter_rev {it a : Addr} {l : List PV} (ok : FmOk G Φ d) (hsz : l.length < 1000000) : Iter G Φ it (fun k o => o.cls = .type "reversed" ∧ o.data = .fields #[.ref a, rawInt ((l.length : Int) - 1 - (k : Int))] ∧ k ≤ l.length) (fun ι frz => VR G ι frz (.p (.tup l)) (.ref a)) (srcAt (.rev l.reverse)) := by
  have tup : ∀ {σ : St} {own : Led} {o : Obj} {s : Shared} {m : Nm} {trk frz : Led}, VR G (trk.map (·.1)) frz (.p (.tup l)) (.ref a) → Re G Φ ((it, o) :: own) σ s.heap m trk frz → ∃ vs, All2 (VR G (trk.map (·.1)) frz) (l.map AV.p) vs ∧ IsTup s.heap a vs.toArray := by
    intro σ own o s m trk frz hv r
    cases hv with | p hv =>
      cases hv with | tup ha hc hd hr =>
        exact ⟨_, up_all2 hr.all2, _, r.at ok ha, hc, _, hd⟩
  refine ⟨fun k σ y own s m trk frz o Q E hIT hk hv r hQ => ?_, fun k σ own s m trk frz o Q E hIT hk hv r hQ => ?_, fun k o s Q E hIT ho q => rv_iter ho hIT.1 q⟩
  · obtain ⟨vs, h1, h2⟩ := tup hv r
    have hl := h1.length
    rw [List.length_map] at hl
    have hk : some (l.reverse.map AV.p)[k]? = some (some y) := hk
    obtain ⟨hlt, y', hy', hr⟩ := (rev_at h1).1 y (Option.some.inj hk)
    have e : (l.length : Int) - 1 - (k : Int) = ((vs.length - 1 - k : Nat) : Int) := by omega
    refine rv_next_item r.mem_own.1 hIT.1 (by rw [hIT.2.1, e]) h2 (by rw [List.getElem?_toArray]; exact hy') (by simp; omega) fun h₁ tk o' ho' hc' hd' hs₁ => ?_
    refine hQ y' h₁ tk o' ⟨hc', ?_, by omega⟩ hr (r.reown hs₁.extBut ho')
    rw [hd']
    have e2 : ((vs.length - 1 - k : Nat) : Int) - 1 = (l.length : Int) - 1 - ((k + 1 : Nat) : Int) := by omega
    rw [e2]
  · obtain ⟨vs, h1, h2⟩ := tup hv r
    have hl := h1.length
    rw [List.length_map] at hl
    have hk : some (l.reverse.map AV.p)[k]? = some none := hk
    have hge := (rev_at h1).2 (Option.some.inj hk)
    have e : (l.length : Int) - 1 - (k : Int) = -1 := by have := hIT.2.2; omega
    exact rv_next_end (by exact ok.hd) r.mem_own.1 hIT.1 (by rw [hIT.2.1, e]) fun h₁ hs₁ => hQ h₁ (r.but hs₁)

noncomputable def PostI (G : Gl) (Φ : Fm) (d : Nat) (own : Led) (m : Nm) (trk frz : Led) (s : Shared) (o : Out AV) (rng : Md) (Q : Value → Shared → Prop) (E : Value → Shared → Prop) : Prop := match o with
  | .ok v σ' => (match srcOf σ' rng v with
    | some S => ∀ it o own' h' tk' trk' frz' IT V, Re G Φ ((it, o) :: (own' ++ own)) σ' h' m trk' frz' → trk.map (·.1) <+: trk'.map (·.1) → (∀ q ∈ frz, q ∈ frz') → IT 0 o → V (trk'.map (·.1)) frz' →
        (∀ ι f ι' f', ι <+: ι' → (∀ q ∈ f, q ∈ f') → V ι f → V ι' f') → (∀ n, S.bd ≤ n → ∀ ι f ι' f', n ≤ ι.length → ι.take n <+: ι' → (∀ q ∈ f, q ∈ f') → V ι f → V ι' f') → S.bd ≤ trk'.length → (∀ Φ', FmOk G Φ' d → Φ'.A = Φ.A → Iter G Φ' it IT V (srcAt S)) → Q (.ref it) { s with heap := h', toks := tk' }
    | none => False)
  | .exc x σ' => ∀ e h' tk' m' trk' frz', XCore G Φ own x σ' m' trk' frz' e h' → trk.map (·.1) <+: trk'.map (·.1) → (∀ q ∈ frz, q ∈ frz') → E (.ref e) { s with heap := h', toks := tk' }
  | .stuck => False

/-- what a loop goes over, as its text says -/
inductive Ci (c : CC) (src : Ex) : Expr → Md → Prop where
  | seq {e : Expr} : noFold e = true → Cm c e src → Ci c src e .seq
  | rng {r : Str} {rp cp : Pos} {e : Expr} : c.scope.names.lookup r = some .globalImplicit → (r == ("__debug__" : Str)) = false → nsIn c.K mainGlobals r = some none → bootBuiltins r = some (.type "range") → r ≠ "__name__" → noStar e = true → Cm c e src → Ci c src (.Call (.Name r rp) [e] [] cp) .rng
  | rev {r : Str} {rp cp : Pos} {e : Expr} : c.scope.names.lookup r = some .globalImplicit → (r == ("__debug__" : Str)) = false → nsIn c.K mainGlobals r = some none → bootBuiltins r = some (.type "reversed") → r ≠ "__name__" → noStar e = true → Cm c e src → Ci c src (.Call (.Name r rp) [e] [] cp) .rev

theorem s_iter {e : Expr} {rng : Md} {src : Ex} {re : St → Out AV} (ok : FmOk G Φ d) (hc : Ci (Φ.cc G) src e rng) (he : ∀ e', Cm (Φ.cc G) e' src → SEx G Φ e' re) (own : Led) (σ : St) (s : Shared) (m : Nm) (trk frz : Led) (Q : Value → Shared → Prop) (E : Value → Shared → Prop) (r : Re G Φ own σ s.heap m trk frz)
    (p : PostI G Φ d own m trk frz s (re σ) rng Q E) : wpAny (model G.prog G.w) Φ.A (eval e Φ.env) (fun x s₁ => wpAny (model G.prog G.w) Φ.A (pyIter x) Q E s₁) E s := by
  have core : ∀ e', Cm (Φ.cc G) e' src → ∀ Q', (∀ v σ' v' h' tk' trk' frz', re σ = .ok v σ' → Re G Φ own σ' h' m trk' frz' → trk.map (·.1) <+: trk'.map (·.1) → (∀ q ∈ frz, q ∈ frz') → VR G (trk'.map (·.1)) frz' v v' → Q' v' { s with heap := h', toks := tk' }) → wpAny (model G.prog G.w) Φ.A (eval e' Φ.env) Q' E s := by
    intro e' hc' Q' hQ
    refine he e' hc' own σ s m trk frz _ E r ?_
    revert p
    cases ho : re σ with
    | ok v σ' => exact fun _ b h' tk' trk' frz' r' p' q' v' => hQ v σ' b h' tk' trk' frz' ho r' p' q' v'
    | exc x σ' => exact fun p => p
    | stuck => exact fun p => p
  cases hc with
  | seq hnf hc' =>
    refine core e hc' _ fun v σ₁ v' h₁ tk₁ trk₁ frz₁ ho r₁ e₁ f₁ v₁ => ?_
    rw [ho] at p
    cases hi : itemsOf σ₁ v with
    | none => simp only [PostI, srcOf, hi] at p
    | some l =>
      simp only [PostI, srcOf, hi] at p
      by_cases hnt : ∀ l, v ≠ .p (.tup l)
      · have hi' : lstOf σ₁ v = some l := by
          rcases itemsOf_inv hi with ⟨ps, q, _⟩ | ⟨_, q⟩
          · exact absurd q (hnt _)
          · exact q
        obtain ⟨a, vs, rfl, h1, h2⟩ := lst_at ok r₁ v₁ hi'
        refine wpAny_pyIter_list h2 ?_
        exact p h₁.objs.size _ [] _ _ trk₁ frz₁ (fun k o => o.cls = .type "list_iterator" ∧ o.data = .fields #[.ref a, .int k 0]) (fun ι frz => VR G ι frz v (.ref a)) r₁.pushO e₁ f₁ ⟨rfl, rfl⟩ v₁ (fun _ _ _ _ hp hf hv => hv.mono hp hf) (fun n hn _ _ _ _ _ hp hf hv => (hv.take hn).mono hp hf) (by have := v₁.bd_le; rw [List.length_map] at this; exact this) (fun Φ' ok' hA => iter_list ok' hnt)
      · have : ∃ l, v = .p (.tup l) := by
          refine Classical.byContradiction fun hno => hnt fun l e => hno ⟨l, e⟩
        obtain ⟨l', rfl⟩ := this
        obtain ⟨a, rfl⟩ : ∃ a, v' = .ref a := by cases v₁ with | p v => cases v with | tup _ _ _ _ => exact ⟨_, rfl⟩
        have h2 : ∃ its, h₁.IsTuple a its := by
          cases v₁ with | p v => cases v with | tup ha hc hd _ => exact ⟨_, _, r₁.at ok ha, hc, _, hd⟩
        obtain ⟨its, h2⟩ := h2
        refine wpAny_pyIter_tuple h2 ?_
        exact p h₁.objs.size _ [] _ _ trk₁ frz₁ (fun k o => o.cls = .type "tuple_iterator" ∧ o.data = .fields #[.ref a, .int k 0]) (fun ι frz => VR G ι frz (.p (.tup l')) (.ref a)) r₁.pushO e₁ f₁ ⟨rfl, rfl⟩ v₁ (fun _ _ _ _ hp hf hv => hv.mono hp hf) (fun n hn _ _ _ _ _ hp hf hv => (hv.take hn).mono hp hf) (Nat.zero_le _) (fun Φ' ok' hA => iter_tuple ok')
  | rng a b c₁ c₂ c₃ hst c₄ =>
    rename_i nm rp cp e
    have hcs : noStars [e] = true := by simp [noStars, hst]
    show wpAny _ _ (eval (.Name nm rp) Φ.env >>= fun g => callWith cp g [] (backTo cp (starEach [e] Φ.env)) []) _ E s
    refine wpAny_bind (name_Bn ok r a b c₁ c₂ c₃ ?_)
    refine callWith_of (P := fun _ => True) (by rw [nostar hcs]; rfl) (keeps_plain (by intro a e; cases e)) (args_of hcs ?_)
    rw [noStar_eq hst]
    refine spliced_cons (core e c₄ _ fun v σ₁ v' h₁ tk₁ trk₁ frz₁ ho r₁ e₁ f₁ v₁ => spliced_nil ⟨trivial, ?_⟩)
    rw [ho] at p
    unfold PostI at p
    dsimp only at p
    unfold srcOf at p
    dsimp only at p
    split at p
    · rename_i S hS
      split at hS
      · rename_i k hk
        split at hS
        · rename_i hs
          cases hS
          rw [intOf_inv hk] at v₁
          simp only [Bool.and_eq_true] at hs
          have hs2 := Nat.le_of_ble_eq_true hs.2
          have hs1 := small_le hs.1
          cases v₁ with | p v₁ =>
            cases v₁ with | int _ t =>
              refine call_range_1 ?_
              have ra := r₁.pushO (o := { cls := .type "range", data := .fields #[.int 0 tk₁, .int k t, .int 1 (tk₁ + 1)] })
              refine wpAny_pyIter_range (IsRange.new _ _ _ _ _ _ _) (small_one (by decide) (by decide) (by omega) (by omega)) ?_
              have hsz : Builtin.Range.rangeSize 0 k 1 = (k.toNat : Int) := by
                rw [rangeSize_one]; split <;> omega
              rw [hsz]
              have rb := ra.pushO (o := { cls := .type "range_iterator", data := .fields #[rawInt 0, rawInt (k.toNat : Int), rawInt 1] })
              exact p _ _ [_] _ _ trk₁ frz₁ (fun j o => j ≤ k.toNat ∧ o = { cls := .type "range_iterator", dict := none, data := .fields #[rawInt (j : Int), rawInt ((k.toNat : Int) - j), rawInt 1], slots := #[] }) (fun _ _ => True) rb e₁ f₁ ⟨Nat.zero_le _, by simp⟩ trivial (fun _ _ _ _ _ _ _ => trivial) (fun _ _ _ _ _ _ _ _ _ _ => trivial) (Nat.zero_le _) (fun Φ' ok' hA => iter_range ok')
        · cases hS
      · cases hS
    · exact p.elim

  | rev a b c₁ c₂ c₃ hst c₄ =>
    rename_i nm rp cp e
    have hcs : noStars [e] = true := by simp [noStars, hst]
    show wpAny _ _ (eval (.Name nm rp) Φ.env >>= fun g => callWith cp g [] (backTo cp (starEach [e] Φ.env)) []) _ E s
    refine wpAny_bind (name_Bn ok r a b c₁ c₂ c₃ ?_)
    refine callWith_of (P := fun _ => True) (by rw [nostar hcs]; rfl) (keeps_plain (by intro a e; cases e)) (args_of hcs ?_)
    rw [noStar_eq hst]
    refine spliced_cons (core e c₄ _ fun v σ₁ v' h₁ tk₁ trk₁ frz₁ ho r₁ e₁ f₁ v₁ => spliced_nil ⟨trivial, ?_⟩)
    rw [ho] at p
    unfold PostI at p
    dsimp only at p
    unfold srcOf at p
    dsimp only at p
    cases ht : tupOf v with
    | none => rw [ht] at p; exact p.elim
    | some l =>
      rw [ht] at p
      dsimp only at p
      cases hb : okLen l.length with
      | false => rw [hb] at p; exact p.elim
      | true =>
        rw [hb] at p
        dsimp only at p
        have hsz := okLen_le hb
        have hvt : v = .p (.tup l) := by
          cases v with
          | p v => cases v <;> first | (cases ht; rfl) | cases ht
          | _ => cases ht
        subst hvt
        obtain ⟨a', rfl⟩ : ∃ a, v' = .ref a := by cases v₁ with | p v => cases v with | tup _ _ _ _ => exact ⟨_, rfl⟩
        have h2 : ∃ its, IsTup h₁ a' its ∧ its.size = l.length := by
          cases v₁ with | p v => cases v with | tup ha hc hd hr => exact ⟨_, ⟨_, r₁.at ok ha, hc, _, hd⟩, by rw [List.size_toArray, ← hr.all2.length]⟩
        obtain ⟨its, h2, h3⟩ := h2
        refine rv_call h2 (by rw [h3]; exact hsz) ?_
        rw [h3]
        have ra := r₁.pushO (o := rvObj a' ((l.length : Int) - 1))
        refine rv_iter (o := rvObj a' ((l.length : Int) - 1)) (by exact ra.mem_own.1) rfl ?_
        exact p h₁.objs.size _ [] _ _ trk₁ frz₁ (fun k o => o.cls = .type "reversed" ∧ o.data = .fields #[.ref a', rawInt ((l.length : Int) - 1 - (k : Int))] ∧ k ≤ l.length) (fun ι frz => VR G ι frz (.p (.tup l)) (.ref a')) ra e₁ f₁ ⟨rfl, by simp [rvObj], Nat.zero_le _⟩ v₁ (fun _ _ _ _ hp hf hv => hv.mono hp hf) (fun n hn _ _ _ _ _ hp hf hv => (hv.take hn).mono hp hf) (Nat.zero_le _) (fun Φ' ok' hA => iter_rev ok' hsz)

theorem Ci.fold {c : CC} {e : Expr} {rng : Md} {x : Ex} (h : Ci c x e rng) (env : Env) (v : Value) : foldedSetIterable e env v = pure v := by
  cases h with
  | seq h _ => exact noFold_eq h env v
  | rng => rfl
  | rev => rfl

noncomputable def ForInv (G : Gl) (Φ : Fm) (P : Prg) (d n fb i : Nat) (S : Src) (y : Sx) (it : Addr) (IT : Nat → Obj → Prop) (V : List Addr → Led → Prop) (own : Led) (s : Shared) (Q : Flow → Shared → Prop) (E : Value → Shared → Prop) (k : Nat) (s' : Shared) : Prop :=
  k ≤ n ∧ ∃ h₁ tk₁ m₁ trk₁ frz₁ σ₁ o₁ i₁, s' = { s with heap := h₁, toks := tk₁ } ∧ Re G Φ ((it, o₁) :: own) σ₁ h₁ m₁ trk₁ frz₁ ∧ IT i₁ o₁ ∧ V (trk₁.map (·.1)) frz₁ ∧ fb ≤ trk₁.length ∧ PostS G Φ own fb trk₁ frz₁ { s with heap := h₁, toks := tk₁ } ((ev P k d).forS fb i S i₁ y σ₁) Q E

theorem s_loop {P : Prg} {x : Str} {px : Pos} {body : List Stmt} {y : Sx} {i fb n : Nat} {it : Addr} {S : Src} {IT : Nat → Obj → Prop} {V : List Addr → Led → Prop}
    (ok : FmOk G Φ d) (hx : isWr (Φ.cc G) x i = true) (hb : ∀ j, j < n → SSts G Φ body (fun fb => (ev P j d).sts fb y))
    (hV : ∀ ι frz ι' frz', fb ≤ ι.length → ι.take fb <+: ι' → (∀ q ∈ frz, q ∈ frz') → V ι frz → V ι' frz') (II : Iter G Φ it IT V (srcAt S))
    {o : Obj} {Q : Flow → Shared → Prop} (r : Re G Φ ((it, o) :: own) σ s.heap m trk frz) (hIT : IT 0 o) (hv : V (trk.map (·.1)) frz) (hf0 : fb ≤ trk.length)
    (p : PostS G Φ own fb trk frz s ((ev P n d).forS fb i S 0 y σ) Q E) : codeAny (model G.prog G.w) Φ.A (.forLoop (.Name x px) (.ref it) body [] Φ.env) (fun r s' => match r with | .ok f => Q f s' | .error e => cameBackBy (model G.prog G.w) Φ.A Φ.env E e s') s := by
  refine codeAny_forLoop (ForInv G Φ P d n fb i S y it IT V own s Q E) ?_ n ⟨Nat.le_refl _, s.heap, s.toks, m, trk, frz, σ, o, 0, rfl, r, hIT, hv, hf0, p⟩
  rintro k _ ⟨hk, h₁, tk₁, m₁, trk₁, frz₁, σ₁, o₁, i₁, rfl, r₁, hIT₁, hv₁, hf, p₁⟩
  cases k with
  | zero => exact p₁.elim
  | succ j =>
    have p₁ : PostS G Φ own fb trk₁ frz₁ { s with heap := h₁, toks := tk₁ } (forStep (ev P j) d fb i S i₁ y σ₁) Q E := p₁
    unfold forStep at p₁
    cases hn : srcAt S i₁ σ₁ with
    | none => rw [hn] at p₁; exact p₁.elim
    | some oy =>
      rw [hn] at p₁
      cases oy with
      | none =>
        refine II.fin i₁ σ₁ own _ m₁ trk₁ frz₁ o₁ _ _ hIT₁ hn hv₁ r₁ fun h₂ r₂ => wpAny_execs_nil ?_
        exact p₁ .next h₂ tk₁ m₁ trk₁ frz₁ r₂ (List.take_prefix _ _) (fun _ q => q) .next
      | some z =>
        refine II.item i₁ σ₁ z own _ m₁ trk₁ frz₁ o₁ _ _ hIT₁ hn hv₁ r₁ fun y' h₂ tk₂ o₂ hIT₂ hy r₂ => ?_
        refine wpAny_assign_Name (s_store ok hx r₂ hy fun h₃ tk₃ m₃ r₃ => ?_)
        refine hb j hk fb ((it, o₂) :: own) _ _ _ trk₁ frz₁ _ _ r₃ hf ?_
        dsimp only at p₁ ⊢
        revert p₁
        cases ho : (ev P j d).sts fb y (setLo i z σ₁) with
        | stuck => exact fun p₁ => p₁.elim
        | exc x σ =>
          rintro p₁ e h' tk' m' trk' frz' ⟨hr, B, dct, r, X, fl⟩ p q
          rw [(ok.fe (isWr_inv hx).1).1]
          refine XAt.pass (s := { s with heap := h', toks := tk' }) X (Around.frames_deeper ok.B.stack) fun h'' X' => p₁ e h'' tk' m' trk' frz' ⟨hr, B, dct, r.drop, X'.sub (s := { s with heap := h'' }) (fun q hq => ?_), fl⟩ p q
          simp only [List.mem_append, List.mem_cons] at hq ⊢
          rcases hq with hq | hq | hq | hq <;> simp [hq]
        | ok f σ₃ =>
          intro p₁ f' h₄ tk₄ m₄ trk₄ frz₄ r₄ e₄ f₄ v₄
          have hv₄ := hV _ _ _ _ (by simpa using hf) e₄ f₄ hv₁
          have p₂ := PostS.later (h₁ := h₄) (tk₁ := tk₄) p₁ e₄ f₄ hf
          cases v₄ with
          | next => exact ⟨j, Nat.lt_succ_self _, Nat.le_of_lt hk, h₄, tk₄, m₄, trk₄, frz₄, σ₃, o₂, i₁ + 1, rfl, r₄, hIT₂, hv₄, len_keep e₄ hf, p₂⟩
          | cont => exact ⟨j, Nat.lt_succ_self _, Nat.le_of_lt hk, h₄, tk₄, m₄, trk₄, frz₄, σ₃, o₂, i₁ + 1, rfl, r₄, hIT₂, hv₄, len_keep e₄ hf, p₂⟩
          | brk => exact PostS.ret (tk := tk₄) p₂ r₄.drop .next
          | ret v => exact PostS.ret (tk := tk₄) p₂ r₄.drop (.ret v)
theorem Re.dropA {l : Led} (r : Re G Φ (l ++ own) σ h m trk frz) : Re G Φ own σ h m trk frz := by
  induction l with
  | nil => exact r
  | cons b l ih => exact ih r.drop
theorem PostS.wider {fb fb' : Nat} {o : Out Fl} {Q : Flow → Shared → Prop} {l trk₁ frz₁ : Led} {h₁ : Heap} {tk₁ : Nat} (p : PostS G Φ own fb trk frz s o Q E) (hle : fb ≤ fb') (hl : fb ≤ trk.length) (e₁ : trk.map (·.1) <+: trk₁.map (·.1)) (f₁ : ∀ q ∈ frz, q ∈ frz₁) :
    PostS G Φ (l ++ own) fb' trk₁ frz₁ { s with heap := h₁, toks := tk₁ } o Q E := by
  have hp := PostS.later (h₁ := h₁) (tk₁ := tk₁) p ((List.take_prefix _ _).trans e₁) f₁ hl
  cases o with
  | ok f τ => exact fun b h' tk' m' trk' frz' r p q v => hp b h' tk' m' trk' frz' r.dropA ((List.take_prefix_take_left hle).trans p) q v
  | exc x σ =>
    rintro e h' tk' m' trk' frz' ⟨hr, B, dct, r, X, fl⟩ p q
    refine hp e h' tk' m' trk' frz' ⟨hr, B, dct, r.dropA, X.sub (s := { s with heap := h' }) (fun q hq => ?_), fl⟩ ((List.take_prefix_take_left hle).trans p) q
    simp only [List.mem_append] at hq ⊢
    rcases hq with hq | hq | hq | hq <;> simp [hq]
  | stuck => exact p

theorem ss_for {P : Prg} {n : Nat} {nm : Str} {pn : Pos} {e : Expr} {b : List Stmt} {src : Ex} {y : Sx} {pos : Pos} {i : Nat} {rng : Md} {re : St → Out AV} (ok : FmOk G Φ d) (hn : isWr (Φ.cc G) nm i = true) (hc : Ci (Φ.cc G) src e rng) (he : ∀ e', Cm (Φ.cc G) e' src → SEx G Φ e' re)
    (hb : ∀ j, j < n → SSts G Φ b (fun fb => (ev P j d).sts fb y)) :
    SSt G Φ (.For (.Name nm pn) e b [] pos) (fun fb σ => (re σ).bind fun v σ => (match srcOf σ rng v with | some S => (ev P n d).forS (Nat.max fb S.bd) i S 0 y σ | none => .stuck)) := by
  intro fb own σ s m trk frz Q E r hl p
  refine wpAny_For (s_iter ok hc he own σ s m trk frz _ E r ?_) (hc.fold _)
  dsimp only at p
  cases ho : re σ with
  | stuck => rw [ho] at p; exact p.elim
  | exc x σ => rw [ho] at p; exact fun e h' tk' m' trk' frz' x q1 q2 => p e h' tk' m' trk' frz' x ((List.take_prefix _ _).trans q1) q2
  | ok v σ₁ =>
    rw [ho] at p
    have p : PostS G Φ own fb trk frz s (match srcOf σ₁ rng v with | some S => (ev P n d).forS (Nat.max fb S.bd) i S 0 y σ₁ | none => .stuck) Q E := p
    unfold PostI
    dsimp only
    cases hS : srcOf σ₁ rng v with
    | none => rw [hS] at p; exact p.elim
    | some S =>
      rw [hS] at p
      dsimp only at p ⊢
      intro it o own' h₁ tk₁ trk₁ frz₁ IT V r₁ e₁ f₁ hIT hv hV hV2 hbd hI
      exact s_loop (own := own' ++ own) ok hn hb (hV2 _ (Nat.le_max_right _ _)) (hI Φ ok rfl) r₁ hIT hv (Nat.max_le.mpr ⟨len_pre e₁ hl, hbd⟩) (p.wider (Nat.le_max_left _ _) hl e₁ f₁)
end
end Mine
namespace Mine
open PySem PySem.W PyProof.Rows PySem.Calls PySem.SeqAt

section
variable {G : Gl} {Φ : Fm} {d : Nat} {own : Led} {σ : St} {h h' : Heap} {m : Nm} {trk frz : Led} {s : Shared} {E : Value → Shared → Prop}

theorem setL_not {a : Addr} {o : Obj} {l : Led} (h : a ∉ l.map (·.1)) : setL a o l = l := by
  unfold setL
  refine PySem.map_eq_self fun q hq => ?_
  have : q.1 ≠ a := fun e => h (e ▸ List.mem_map_of_mem (f := (·.1)) hq)
  exact if_neg this

noncomputable def PC (F : List AV → St → Prop) : Out (List AV) → Prop
  | .ok a σ => F a σ
  | .exc _ _ => True
  | .stuck => False

/-- what a comprehension's end is to give -/
noncomputable def CmpFin (G : Gl) (Φ : Fm) (own : Led) (m : Nm) (trk frz : Led) (s : Shared) (RR : Value → Addr → Result → Shared → Prop) (acc : List AV) (σ' : St) : Prop := ∀ D C oC vs nn h' tk' trk' frz', Re G Φ ((D, listOf (List.toArray vs) nn) :: (C, oC) :: own) (unLo Φ.ns.length σ') h' m trk' frz' → (∃ mm, NsObj oC mm) → trk.map (·.1) <+: trk'.map (·.1) → (∀ q ∈ frz, q ∈ frz') → All2 (VR G (trk'.map (·.1)) frz') acc vs → RR (.ref D) C (.ok .next) { s with heap := h', toks := tk' }
/-- between its turns -/
noncomputable def CmpInv (G : Gl) (Φ : Fm) (P : Prg) (d n : Nat) (sc : Scope) (x : Str) (C D it : Addr) (tst z : Ex) (S : Src) (IT : Nat → Obj → Prop) (V : List Addr → Led → Prop) (RR : Value → Addr → Result → Shared → Prop) (own : Led) (m : Nm) (trk frz : Led) (s : Shared) (k : Nat) (s' : Shared) : Prop :=
  k ≤ n ∧ ∃ h₁ tk₁ oC mm trk₁ frz₁ σ₁ oI vs nn acc k₀, s' = { s with heap := h₁, toks := tk₁ } ∧ Re G (Φ.inner sc x C) ((it, oI) :: (D, listOf (List.toArray vs) nn) :: own) σ₁ h₁ ⟨m.fn, (C, oC) :: m.cel⟩ trk₁ frz₁ ∧ NsObj oC mm ∧ IT k₀ oI ∧ V (trk₁.map (·.1)) frz₁ ∧
    trk.map (·.1) <+: trk₁.map (·.1) ∧ (∀ q ∈ frz, q ∈ frz₁) ∧ All2 (VR G (trk₁.map (·.1)) frz₁) acc vs ∧ PC (CmpFin G Φ own m trk frz s RR) ((ev P k d).cmp Φ.ns.length S k₀ acc tst z σ₁)

theorem cmp_run {P : Prg} {n : Nat} {elt iter : Expr} {x : Str} {px pos : Pos} {ifs : List Expr} {sc : Scope} {tst z : Ex} {S : Src} {it : Addr} {o : Obj} {IT : Nat → Obj → Prop} {V : List Addr → Led → Prop} {RR : Value → Addr → Result → Shared → Prop}
    (ok : FmOk G Φ d) (hs : CompSc (Φ.cc G) sc x)
    (ht : ∀ C j, j < n → ∀ e, isNil tst = false → ifs = [e] → STs G (Φ.inner sc x C) e ((ev P j d).tst tst)) (htn : isNil tst = true ∧ ifs = [] ∨ ∃ e, isNil tst = false ∧ ifs = [e])
    (he : ∀ C j, j < n → SEx G (Φ.inner sc x C) elt ((ev P j d).ex z))
    (hI : ∀ Φ', FmOk G Φ' d → Φ'.A = Φ.A → Iter G Φ' it IT V (srcAt S)) (hV : ∀ ι f ι' f', ι <+: ι' → (∀ q ∈ f, q ∈ f') → V ι f → V ι' f')
    (r : Re G Φ ((it, o) :: own) σ s.heap m trk frz) (hIT : IT 0 o) (hv : V (trk.map (·.1)) frz)
    (p : PC (CmpFin G Φ own m trk frz s RR) ((ev P n d).cmp Φ.ns.length S 0 [] tst z σ)) :
    wpAny (model G.prog G.w) Φ.A (newList []) (fun acc s₃ => wpAny (model G.prog G.w) Φ.A (newFunctionEnv sc Φ.env.globals (closA Φ.env sc.names []) [] Φ.env.qual none .none (some Φ.env)) (fun cenv s₄ =>
      codeAny (model G.prog G.w) Φ.A (.compStart (.ListComp elt [⟨.Name x px, iter, ifs, 0⟩] sc pos) 0 (.ref it) acc { cenv with scope := relabel sc Φ.env }) (RR acc cenv.locals) s₄) E s₃) E s := by
  refine wpAny_newObj_type (wpAny_newFunctionEnv hs.cell (by intro y hy; simp at hy) (fun h₁ hns₁ hsb₁ => ?_) hs.kind)
  dsimp only at hns₁ hsb₁ ⊢
  have r₁ := r.pushO (o := { cls := .type "list", dict := none, data := .seq ([] : List Value).toArray })
  have r₂ := r₁.pushO (o := { cls := .type (if (some Φ.env).isSome then "dict" else "frame"), data := .dict #[] })
  obtain ⟨oC, hoC, hnC⟩ := NsObj.of hns₁
  have r₃ := r₂.reown hsb₁.extBut hoC
  dsimp only at r₃
  generalize hC : (s.heap.push { cls := .type "list", dict := none, data := .seq ([] : List Value).toArray }).objs.size = C at r₃ hns₁ hsb₁ hoC ⊢
  generalize hD : s.heap.objs.size = D at r₃ ⊢
  have r₄ : Re G (Φ.inner sc x C) ((it, o) :: (D, listOf ([] : List Value).toArray 0) :: own) σ h₁ ⟨m.fn, (C, oC) :: m.cel⟩ trk frz := (r₃.inC ok hs.cm).swapOwn
  have ok' : FmOk G (Φ.inner sc x C) d := ok.inner hs
  have II := hI _ ok' rfl
  have hca : ∀ a, Pl.cell a ∈ Φ.pl → a ∈ m.cel.map (·.1) := fun a ha => by
    obtain ⟨o, v, ho, _⟩ := r.ca a ha
    exact List.mem_map_of_mem (f := (·.1)) ho
  have loop : ∀ s₅ : Shared, s₅ = { s with heap := h₁, toks := s.toks + ([] : List (Str × Value)).length } →
      codeAny (model G.prog G.w) Φ.A (.compLoop (.ListComp elt [⟨.Name x px, iter, ifs, 0⟩] sc pos) 0 (.ref it) (.ref D) (Φ.inner sc x C).env) (RR (.ref D) C) s₅ := by
    rintro s₅ rfl
    refine codeAny_compLoop_tests (CmpInv G Φ P d n sc x C D it tst z S IT V RR own m trk frz s)
      ?_ n ⟨Nat.le_refl _, h₁, _, oC, _, trk, frz, σ, o, [], 0, [], 0, rfl, r₄, hnC, hIT, hv, List.prefix_refl _, fun _ q => q, .nil, p⟩
    rintro k _ ⟨hk, h₁, tk₁, oC, mm, trk₁, frz₁, σ₁, oI, vs, nn, acc, k₀, rfl, r₁, hnC, hIT, hv, hpre, hfrz, hacc, p⟩
    cases k with
    | zero => exact p.elim
    | succ j =>
      have p : PC _ (cmpStep (ev P j) d Φ.ns.length S k₀ acc tst z σ₁) := p
      unfold cmpStep at p
      cases hsrc : srcAt S k₀ σ₁ with
      | none => rw [hsrc] at p; exact p.elim
      | some oy =>
        rw [hsrc] at p
        cases oy with
        | none =>
          refine II.fin k₀ σ₁ _ _ _ trk₁ frz₁ oI _ _ hIT hsrc hv r₁ fun h₂ r₂ => ?_
          have p : CmpFin G Φ own m trk frz s RR acc σ₁ := p
          exact p D C oC vs nn h₂ tk₁ trk₁ frz₁ (r₂.outC ok hs.cm rfl hca).swapOwn ⟨mm, hnC⟩ hpre hfrz hacc
        | some y =>
          dsimp only at p
          refine II.item k₀ σ₁ y _ _ _ trk₁ frz₁ oI _ _ hIT hsrc hv r₁ fun y' h₂ tk₂ o₂ hIT₂ hy r₂ => ?_
          have hnd : C ∉ m.cel.map (·.1) := by
            have := r₂.nd
            rw [List.map_append, List.map_append, List.map_append, List.map_cons] at this
            have d1 := (List.nodup_append.mp (List.nodup_append.mp (List.nodup_append.mp this).2.1).2.1).1
            exact (List.nodup_cons.mp d1).1
          refine wpAny_assign_Name (wpAny_storeName_local (m := mm) (lookup_relabel_local hs.var) (hnC _ C (r₂.celAt (.head _))) (fun h₃ hn₃ hs₃ => ?_) (by show (sc.kind == .class || (sc.kind == .module && _)) = false; rw [hs.kind]; rfl))
          obtain ⟨oC₃, hoC₃, hnC₃⟩ := NsObj.of hn₃
          have r₃ := r₂.setCel (σ' := setLo Φ.ns.length y σ₁) (.head _) hs₃ hoC₃ rfl rfl (.inr fun hm => ?_) ?_
          rotate_left
          · rcases List.mem_append.mp hm with hm | hm
            · exact hnd (hca _ hm)
            · simp at hm
          · intro i w e
            unfold setLo at e
            dsimp only at e
            rw [List.getElem?_set] at e
            split at e
            · rename_i hij
              subst hij
              split at e
              · cases e
                refine ⟨.cmp x, y', ?_, ⟨oC₃, _, setL_at (.head _), hnC₃, if_pos rfl⟩, hy⟩
                show (Φ.pl ++ [Pl.cmp x])[Φ.ns.length]? = _
                rw [← (ok.fe hs.cm).2.2.1]; simp
              · cases e
            · rename_i hij
              obtain ⟨q, w', hq, hr, hvr⟩ := r₂.lo i w e
              refine ⟨q, w', hq, ?_, hvr⟩
              have hq : (Φ.pl ++ [Pl.cmp x])[i]? = some q := hq
              have hi : i < Φ.pl.length := by
                have := (List.getElem?_eq_some_iff.mp hq).1
                simp only [List.length_append, List.length_cons, List.length_nil] at this
                rw [(ok.fe hs.cm).2.2.1] at this ⊢
                omega
              rw [List.getElem?_append_left hi] at hq
              cases q with
              | loc y => exact hr
              | cell a =>
                obtain ⟨ob, ho, hd⟩ := hr
                have : a ≠ C := fun e => hnd (e ▸ hca _ (List.mem_of_getElem? hq))
                exact ⟨ob, setL_other ho this, hd⟩
              | cmp y => exact absurd (List.mem_of_getElem? hq) ((ok.fe hs.cm).2.2.2 y)
          have hset : setL C oC₃ ((C, oC) :: m.cel) = (C, oC₃) :: m.cel := by
            show (if C = C then (C, oC₃) else (C, oC)) :: setL C oC₃ m.cel = _
            rw [if_pos rfl, setL_not hnd]
          rw [hset] at r₃
          have tail : ∀ (b : Bool) σ₄ h₄ tk₄ trk₄ frz₄, Re G (Φ.inner sc x C) ((it, o₂) :: (D, listOf (List.toArray vs) nn) :: own) σ₄ h₄ ⟨m.fn, (C, oC₃) :: m.cel⟩ trk₄ frz₄ → trk₁.map (·.1) <+: trk₄.map (·.1) → (∀ q ∈ frz₁, q ∈ frz₄) →
              PC (CmpFin G Φ own m trk frz s RR)
                (match b with
                | false => (ev P j d).cmp Φ.ns.length S (k₀ + 1) acc tst z σ₄
                | true => ((ev P j d).ex z σ₄).noX.bind fun x σ => (match okLen acc.length with
                  | true => (ev P j d).cmp Φ.ns.length S (k₀ + 1) (acc ++ [x]) tst z σ
                  | false => .stuck)) →
              (if b = true then wpAny (model G.prog G.w) Φ.A (eval elt (Φ.inner sc x C).env) (fun x' s₄ =>
                wpAny (model G.prog G.w) Φ.A (call (.builtin "list.append") [.ref D, x']) (fun _ s₅ => ∃ m', m' < j + 1 ∧ CmpInv G Φ P d n sc x C D it tst z S IT V RR own m trk frz s m' s₅) (notedBy (model G.prog G.w) Φ.A (Φ.inner sc x C).env fun e s' => RR (.ref D) C (.error e) s') s₄) (notedBy (model G.prog G.w) Φ.A (Φ.inner sc x C).env fun e s' => RR (.ref D) C (.error e) s') { s with heap := h₄, toks := tk₄ }
              else ∃ m', m' < j + 1 ∧ CmpInv G Φ P d n sc x C D it tst z S IT V RR own m trk frz s m' { s with heap := h₄, toks := tk₄ }) := by
            intro b σ₄ h₄ tk₄ trk₄ frz₄ r₄ e₄ f₄ p₄
            cases b with
            | false =>
              rw [if_neg (by decide)]
              exact ⟨j, Nat.lt_succ_self _, Nat.le_of_lt hk, h₄, tk₄, oC₃, _, trk₄, frz₄, σ₄, o₂, vs, nn, acc, k₀ + 1, rfl, r₄, hnC₃, hIT₂, hV _ _ _ _ e₄ f₄ hv, hpre.trans e₄, fun q hq => f₄ q (hfrz q hq), hacc.mono fun _ _ q => q.mono e₄ f₄, p₄⟩
            | true =>
              rw [if_pos rfl]
              dsimp only at p₄
              refine he C j hk _ σ₄ _ _ trk₄ frz₄ _ _ r₄ ?_
              cases ho : (ev P j d).ex z σ₄ with
              | stuck => rw [ho] at p₄; exact p₄.elim
              | exc x σ => rw [ho] at p₄; exact p₄.elim
              | ok w σ₅ =>
                rw [ho] at p₄
                intro w' h₅ tk₅ trk₅ frz₅ r₅ e₅ f₅ v₅
                have p₄ : PC _ (match okLen acc.length with | true => (ev P j d).cmp Φ.ns.length S (k₀ + 1) (acc ++ [w]) tst z σ₅ | false => .stuck) := p₄
                cases hl : okLen acc.length with
                | false => rw [hl] at p₄; exact p₄.elim
                | true =>
                  rw [hl] at p₄
                  have hl := okLen_le hl
                  have hlen := hacc.length
                  have r₆ := r₅.swapOwn
                  refine append_at (hsz := by simp only [List.size_toArray]; rw [sizeLine_eq]; omega) r₆.mem_own.1 (fun h₇ hs₇ ho₇ => ?_)
                  have r₇ := (r₆.reown hs₇.extBut ho₇).swapOwn
                  have e1 : vs.toArray.push w' = (vs ++ [w']).toArray := by simp
                  rw [e1] at r₇
                  exact ⟨j, Nat.lt_succ_self _, Nat.le_of_lt hk, h₇, tk₅, oC₃, _, trk₅, frz₅, σ₅, o₂, vs ++ [w'], nn + 1, acc ++ [w], k₀ + 1, rfl, r₇, hnC₃, hIT₂, hV _ _ _ _ (e₄.trans e₅) (fun q hq => f₅ q (f₄ q hq)) hv, hpre.trans (e₄.trans e₅), fun q hq => f₅ q (f₄ q (hfrz q hq)), (hacc.mono fun _ _ q => q.mono (e₄.trans e₅) (fun q hq => f₅ q (f₄ q hq))).append (.cons v₅ .nil), p₄⟩
          unfold cmpTst at p
          rcases htn with ⟨hnil, rfl⟩ | ⟨e, hnil, rfl⟩
          · rw [hnil] at p
            rw [List.forIn_nil]
            refine wpAny_pure ?_
            exact tail true _ h₃ _ trk₁ frz₁ r₃ (List.prefix_refl _) (fun _ q => q) p
          · rw [hnil] at p
            refine wpAny_tests_one (ht C j hk e hnil rfl _ _ _ _ trk₁ frz₁ _ _ r₃ ?_)
            have p : PC _ (((ev P j d).tst tst (setLo Φ.ns.length y σ₁)).noX.bind _) := p
            cases ho : (ev P j d).tst tst (setLo Φ.ns.length y σ₁) with
            | stuck => rw [ho] at p; exact p.elim
            | exc x σ => rw [ho] at p; exact p.elim
            | ok b σ₄ =>
              rw [ho] at p
              intro b' h₄ tk₄ trk₄ frz₄ r₄ e₄ f₄ v₄
              have v₄ : b = b' := v₄
              subst v₄
              exact tail b σ₄ h₄ tk₄ trk₄ frz₄ r₄ e₄ f₄ p
  exact codeAny_compStart_list (loop _ rfl) (II.self 0 o _ _ _ hIT (by
    have := r₄.mem_own.1
    exact this) (loop _ rfl))
theorem Re.dropL {a : Addr × Obj} {l : Led} (r : Re G Φ (a :: (l ++ own)) σ h m trk frz) : Re G Φ (a :: own) σ h m trk frz := by
  induction l with
  | nil => exact r
  | cons b l ih => exact ih r.swapOwn.drop

noncomputable def compR (P : Prg) (n d i : Nat) (rng : Md) (tst z : Ex) (re : St → Out AV) (σ : St) : Out AV := (re σ).bind fun v σ => ofO (srcOf σ rng v) (fun S σ => ((ev P n d).cmp i S 0 [] tst z σ).bind fun vs σ => newLst vs (unLo i σ)) σ

theorem free_some {sc : Scope} {x : Str} (ok : FmOk G Φ d) (hs : CompSc (Φ.cc G) sc x) : ∀ y ∈ sc.names, y.2 = .free → (Φ.env.cells.lookup y.1).isSome = true := fun y hy e => by
  obtain ⟨h1, h2⟩ := hs.free y hy e
  obtain ⟨i, hi⟩ := List.getElem?_of_mem h2
  obtain ⟨a, ha, _⟩ := ok.ce i y.1 hi h1
  rw [ha]; rfl

theorem sx_cmpr {P : Prg} {n : Nat} {elt iter : Expr} {x : Str} {px pos : Pos} {ifs : List Expr} {sc : Scope} {rng : Md} {src tst z : Ex} {re : St → Out AV}
    (ok : FmOk G Φ d) (hc : Ci (Φ.cc G) src iter rng) (hs : CompSc (Φ.cc G) sc x) (hre : ∀ e', Cm (Φ.cc G) e' src → SEx G Φ e' re)
    (ht : ∀ C j, j < n → ∀ e, isNil tst = false → ifs = [e] → STs G (Φ.inner sc x C) e ((ev P j d).tst tst)) (htn : isNil tst = true ∧ ifs = [] ∨ ∃ e, isNil tst = false ∧ ifs = [e])
    (he : ∀ C j, j < n → SEx G (Φ.inner sc x C) elt ((ev P j d).ex z)) :
    SEx G Φ (.ListComp elt [⟨.Name x px, iter, ifs, 0⟩] sc pos) (compR P n d Φ.ns.length rng tst z re) := by
  intro own σ s m trk frz Q E r p
  rw [eval_ListComp]
  refine wpAny_comprehension_free (use := none) (cl := closA Φ.env sc.names []) rfl (fun v => hc.fold _ v) (closureFor_all (free_some ok hs)) hs.kind hs.loc ?_
  refine s_iter ok hc hre own σ s m trk frz _ E r ?_
  unfold compR at p
  cases ho : re σ with
  | stuck => rw [ho] at p; exact p.elim
  | exc x σ => rw [ho] at p; exact p
  | ok v σ₁ =>
    rw [ho] at p
    have p : Post (VR G) G Φ own m trk frz s (ofO (srcOf σ₁ rng v) (fun S σ => ((ev P n d).cmp Φ.ns.length S 0 [] tst z σ).bind fun vs σ => newLst vs (unLo Φ.ns.length σ)) σ₁) Q E := p
    unfold PostI
    dsimp only
    cases hS : srcOf σ₁ rng v with
    | none => rw [hS] at p; exact p.elim
    | some S =>
      rw [hS] at p
      dsimp only [ofO] at p ⊢
      intro it o own' h₁ tk₁ trk₁ frz₁ IT V r₁ e₁ f₁ hIT hv hV hV2 hbd hI
      refine cmp_run (RR := fun acc C => compPost (model G.prog G.w) Φ.A E none Q acc C) ok hs ht htn he hI hV r₁ hIT hv ?_
      cases hcmp : (ev P n d).cmp Φ.ns.length S 0 [] tst z σ₁ with
      | stuck => rw [hcmp] at p; exact p.elim
      | exc x σ => trivial
      | ok acc σ₂ =>
        rw [hcmp] at p
        have p : Post (VR G) G Φ own m trk frz s (newLst acc (unLo Φ.ns.length σ₂)) Q E := p
        intro D C oC vs nn h₂ tk₂ trk₂ frz₂ r₂ hn e₂ f₂ hacc
        obtain ⟨mm, hn⟩ := hn
        refine ⟨mm, hn _ _ r₂.swapOwn.mem_own.1, fun h₃ hs₃ => ?_⟩
        have r₃ := (r₂.swapOwn.but hs₃.extBut).dropL
        exact newLst_own (s := { s with heap := h₃, toks := tk₂ }) (tk := tk₂) r₃ hacc (Post.later p (e₁.trans e₂) fun q hq => f₂ q (f₁ q hq))

theorem ss_asgC {P : Prg} {n : Nat} {elt iter : Expr} {x : Str} {px pos : Pos} {ifs : List Expr} {sc : Scope} {rng : Md} {src tst z : Ex} {re : St → Out AV} {nm : Str} {pn spos : Pos} {i : Nat}
    (ok : FmOk G Φ d) (hw : isWr (Φ.cc G) nm i = true) (hc : Ci (Φ.cc G) src iter rng) (hs : CompSc (Φ.cc G) sc x) (hre : ∀ e', Cm (Φ.cc G) e' src → SEx G Φ e' re)
    (ht : ∀ C j, j < n → ∀ e, isNil tst = false → ifs = [e] → STs G (Φ.inner sc x C) e ((ev P j d).tst tst)) (htn : isNil tst = true ∧ ifs = [] ∨ ∃ e, isNil tst = false ∧ ifs = [e])
    (he : ∀ C j, j < n → SEx G (Φ.inner sc x C) elt ((ev P j d).ex z)) :
    SSt G Φ (.Assign [.Name nm pn] (.ListComp elt [⟨.Name x px, iter, ifs, 0⟩] sc pos) spos) (fun fb σ => (compR P n d Φ.ns.length rng tst z re σ).bind fun v σ => .ok .next (trim fb (setLo i v σ))) := by
  have hsw : ∃ b, swapsWith (.ListComp elt [⟨.Name x px, iter, ifs, 0⟩] sc pos) (some (.Name nm pn)) spos.line Φ.env = pure b := ⟨_, rfl⟩
  obtain ⟨b, hsw⟩ := hsw
  cases b with
  | false => exact ss_asg ok hw hsw (sx_cmpr ok hc hs hre ht htn he)
  | true =>
    intro fb own σ s m trk frz Q E r hl₀ p
    rw [exec_Assign_Name_used _ _ _ _ hsw]
    refine wpAny_bind (wpAny_standAt (wpAny_bind ?_))
    show wpAny _ Φ.A (do let _ ← comprehension (.ListComp elt [⟨.Name x px, iter, ifs, 0⟩] sc pos) sc Φ.env _ (newList []) false (eval iter Φ.env) (some (assign (.Name nm pn) Φ.env))) _ _ s
    refine wpAny_bind (wpAny_mono (wpAny_comprehension_free (use := some (assign (.Name nm pn) Φ.env)) (cl := closA Φ.env sc.names []) (Q := fun _ s' => Q .next s') rfl (fun v => hc.fold _ v) (closureFor_all (free_some ok hs)) hs.kind hs.loc ?_) (fun _ s' hq => wpAny_pure (wpAny_pure hq)) fun _ _ e => e)
    refine s_iter ok hc hre own σ s m trk frz _ E r ?_
    unfold compR at p
    dsimp only at p
    cases ho : re σ with
    | stuck => rw [ho] at p; exact p.elim
    | exc x σ => rw [ho] at p; exact fun e h' tk' m' trk' frz' x q1 q2 => p e h' tk' m' trk' frz' x ((List.take_prefix _ _).trans q1) q2
    | ok v σ₁ =>
      rw [ho] at p
      have p : PostS G Φ own fb trk frz s ((ofO (srcOf σ₁ rng v) (fun S σ => ((ev P n d).cmp Φ.ns.length S 0 [] tst z σ).bind fun vs σ => newLst vs (unLo Φ.ns.length σ)) σ₁).bind fun v σ => .ok .next (trim fb (setLo i v σ))) Q E := p
      unfold PostI
      dsimp only
      cases hS : srcOf σ₁ rng v with
      | none => rw [hS] at p; exact p.elim
      | some S =>
        rw [hS] at p
        dsimp only [ofO] at p ⊢
        intro it o own' h₁ tk₁ trk₁ frz₁ IT V r₁ e₁ f₁ hIT hv hV hV2 hbd hI
        refine cmp_run (RR := fun acc C => compPost (model G.prog G.w) Φ.A E (some (assign (.Name nm pn) Φ.env)) (fun _ s' => Q .next s') acc C) ok hs ht htn he hI hV r₁ hIT hv ?_
        cases hcmp : (ev P n d).cmp Φ.ns.length S 0 [] tst z σ₁ with
        | stuck => rw [hcmp] at p; exact p.elim
        | exc x σ => trivial
        | ok acc σ₂ =>
          have p : PostS G Φ own fb trk frz s ((((ev P n d).cmp Φ.ns.length S 0 [] tst z σ₁).bind fun vs σ => newLst vs (unLo Φ.ns.length σ)).bind fun v σ => .ok .next (trim fb (setLo i v σ))) Q E := p
          rw [hcmp] at p
          have p : PostS G Φ own fb trk frz s ((newLst acc (unLo Φ.ns.length σ₂)).bind fun v σ => .ok .next (trim fb (setLo i v σ))) Q E := p
          intro D C oC vs nn h₂ tk₂ trk₂ frz₂ r₂ hn e₂ f₂ hacc
          obtain ⟨mm, hn⟩ := hn
          show wpAny _ Φ.A (assign (.Name nm pn) Φ.env (.ref D)) _ _ _
          unfold newLst at p
          cases hl : okLen acc.length with
          | false => rw [hl] at p; exact p.elim
          | true =>
            rw [hl] at p
            have hb := bds_of (G := G) hacc
            have r₃ := r₂.ownT (.lst hacc) (by have := r₂.len; simp only [List.length_map] at hb; show bds acc ≤ _; omega)
            have hobj : VR G ((trk₂ ++ [(D, listOf vs.toArray nn)]).map (·.1)) frz₂ (.obj (unLo Φ.ns.length σ₂).hp.length) (.ref D) := by
              refine .obj ?_
              rw [List.map_append, List.getElem?_append_right (by have := r₂.len; simp; omega)]
              have := r₂.len
              simp [this]
            refine wpAny_assign_Name (s_store ok hw r₃ hobj fun h₃ tk₃ m₃ r₄ => ⟨mm, hn _ _ r₄.mem_own.1, fun h₄ hs₄ => ?_⟩)
            have r₅ := (r₄.but hs₄.extBut).dropA
            have p₂ := PostS.later (h₁ := h₄) (tk₁ := tk₃) (trk₁ := trk₂ ++ [(D, listOf vs.toArray nn)]) (frz₁ := frz₂) p ((List.take_prefix _ _).trans ((e₁.trans e₂).trans ⟨[D], by simp⟩)) (fun q hq => f₂ q (f₁ q hq)) hl₀
            exact PostS.trimmed (E := E) (tk := tk₃) p₂ r₅
end
end Mine
namespace Mine
open PySem PySem.W PyProof.Rows PySem.Calls PySem.SeqAt

structure ClsW (G : Gl) (C : Nat) (k : Cls) : Prop where
  mks : makesIn G.K C = true
  ini : findIn G.K (.ref C) "__init__" = some (some (.ref k.init))
  inf : typeIn G.K (.ref k.init) = some (.type "function")
  pg : plainGet G.K C "" = true
  sa : findIn G.K (.ref C) "__setattr__" = some (some (.builtin "object.__setattr__"))
  po : plainOver G.K C = true
  hd : hasDictIn G.K C = true
  fl : ∀ i x, hasN i k.flds = true → G.an[i]? = some x → takerIn G.K C x = some none ∧ ∃ attr, findIn G.K (.ref C) x = some attr ∧ noGet G.K attr = true
  mt : ∀ i f x, lookN i k.mths = some f → G.an[i]? = some x → findIn G.K (.ref C) x = some (some (.ref f)) ∧ typeIn G.K (.ref f) = some (.type "function") ∧ keepIn G.K (.ref f) = true
noncomputable def ClssOk (G : Gl) (P : Prg) : Prop := ∀ C k, lookN C P.cls = some k → ClsW G C k

abbrev FldR (an : List Str) (hb : Heap) (ι : List Addr) (frz : Led) (q : Nat × AV) (e : DictEntry) : Prop := (∃ x t, an[q.1]? = some x ∧ e.key = .str x t) ∧ VRel an hb ι frz q.2 e.val

section
variable {an : List Str} {hb : Heap} {ι : List Addr} {frz : Led} {l : List (Nat × AV)} {es : List DictEntry} {n : Nat} {x : Str}
theorem key_str {q : Nat × AV} {e : DictEntry} (hn : an.Nodup) (hx : an[n]? = some x) (h : FldR an hb ι frz q e) : e.key.isStr x = Nat.beq q.1 n := by
  obtain ⟨⟨y, t, hy, hk⟩, _⟩ := h
  rw [hk]
  show (y == x) = _
  cases hq : Nat.beq q.1 n with
  | true =>
    have := Nat.eq_of_beq_eq_true hq
    rw [this, hx] at hy
    cases hy
    simp
  | false =>
    have := Nat.ne_of_beq_eq_false hq
    simp only [beq_eq_false_iff_ne, ne_eq]
    rintro rfl
    exact this (nd_inj hn hy hx)
theorem fld_refs (h : All2 (FldR an hb ι frz) l es) : es.any (·.refKey) = false := by
  induction h with
  | nil => rfl
  | cons h _ ih =>
    obtain ⟨⟨y, t, _, hk⟩, _⟩ := h
    rw [List.any_cons, ih, Bool.or_false]
    unfold DictEntry.refKey
    rw [hk]
theorem fld_find (hn : an.Nodup) (hx : an[n]? = some x) (h : All2 (FldR an hb ι frz) l es) : (∀ v, lookN n l = some v → ∃ e, es.find? (·.key.isStr x) = some e ∧ VRel an hb ι frz v e.val) ∧ (lookN n l = none → es.find? (·.key.isStr x) = none) := by
  induction h with
  | nil => exact ⟨fun v e => (by cases e), fun _ => rfl⟩
  | cons h _ ih =>
    have hk := key_str hn hx h
    rw [List.find?_cons]
    unfold lookN
    rw [hk]
    cases Nat.beq _ n with
    | true => exact ⟨fun v e => (by cases e; exact ⟨_, rfl, h.2⟩), fun e => (by cases e)⟩
    | false => exact ih
theorem fld_get (hn : an.Nodup) (hx : an[n]? = some x) (h : All2 (FldR an hb ι frz) l es) {v : AV} (e : lookN n l = some v) : ∃ v', getL x es = some (some v') ∧ VRel an hb ι frz v v' := by
  obtain ⟨e', a, b⟩ := (fld_find hn hx h).1 v e
  exact ⟨e'.val, by unfold getL; rw [a], b⟩
theorem fld_no (hn : an.Nodup) (hx : an[n]? = some x) (h : All2 (FldR an hb ι frz) l es) (e : lookN n l = none) : getL x es = some none := by
  unfold getL
  rw [(fld_find hn hx h).2 e, fld_refs h]
  rfl
theorem fld_some (hn : an.Nodup) (hx : an[n]? = some x) (h : All2 (FldR an hb ι frz) l es) : (getL x es).isSome = true := by
  cases e : lookN n l with
  | some v => obtain ⟨v', a, _⟩ := fld_get hn hx h e; rw [a]; rfl
  | none => rw [fld_no hn hx h e]; rfl
theorem fld_put (hn : an.Nodup) (hx : an[n]? = some x) (h : All2 (FldR an hb ι frz) l es) {v : AV} {v' : Value} (hv : VRel an hb ι frz v v') (hsh : Int) (t : Tok) : All2 (FldR an hb ι frz) (putF n v l) (putL x hsh (.str x t) v' es) := by
  induction h with
  | nil => exact .cons ⟨⟨x, t, hx, rfl⟩, hv⟩ .nil
  | cons h h' ih =>
    have hk := key_str hn hx h
    unfold putF putL
    rw [hk]
    cases Nat.beq _ n with
    | true => exact .cons ⟨h.1, hv⟩ h'
    | false => exact .cons h ih
theorem putL_len {hsh : Int} {k v : Value} : ∀ es : List DictEntry, (putL x hsh k v es).length ≤ es.length + 1
  | [] => Nat.le_refl _
  | e :: r => by
    unfold putL
    split
    · simp
    · simpa using putL_len r
theorem putF_mem {v w : AV} : ∀ {l : List (Nat × AV)}, w ∈ (putF n v l).map (·.2) → w = v ∨ w ∈ l.map (·.2)
  | [], h => .inl (by simpa [putF] using h)
  | q :: r, h => by
    unfold putF at h
    split at h
    · rcases List.mem_cons.mp h with h | h
      · exact .inl h
      · exact .inr (.tail _ h)
    · rcases List.mem_cons.mp h with h | h
      · exact .inr (h ▸ .head _)
      · exact (putF_mem h).imp id fun h => .tail _ h
end
theorem insOf_inv {x : AV} {q : Nat × Nat} (h : insOf x = some q) : x = .ins q.1 q.2 := by
  cases x <;> cases h; rfl
theorem fldAt_inv {o : Option AO} {l : List (Nat × AV)} (h : fldAt o = some l) : o = some (.fld l) := by
  cases o with
  | none => cases h
  | some o => cases o <;> cases h; rfl
theorem fldsOf_inv {P : Prg} {x : AV} {n : Nat} {σ : St} {q : Nat × List (Nat × AV)} (h : fldsOf P x n σ = some q) : ∃ C k, x = .ins C q.1 ∧ lookN C P.cls = some k ∧ hasN n k.flds = true ∧ σ.hp[q.1]? = some (.fld q.2) := by
  unfold fldsOf at h
  cases h1 : insOf x with
  | none => rw [h1] at h; cases h
  | some u =>
    rw [h1] at h; dsimp only at h
    cases h2 : lookN u.1 P.cls with
    | none => rw [h2] at h; cases h
    | some k =>
      rw [h2] at h; dsimp only at h
      cases h3 : hasN n k.flds with
      | false => rw [h3] at h; cases h
      | true =>
        rw [h3] at h; dsimp only at h
        cases h4 : fldAt σ.hp[u.2]? with
        | none => rw [h4] at h; cases h
        | some l => rw [h4] at h; cases h; exact ⟨u.1, k, insOf_inv h1, h2, h3, fldAt_inv h4⟩
theorem methOf_inv {P : Prg} {x : AV} {n f : Nat} {σ : St} (h : methOf P x n σ = some f) : ∃ C i k l, x = .ins C i ∧ lookN C P.cls = some k ∧ lookN n k.mths = some f ∧ lookN n l = none ∧ σ.hp[i]? = some (.fld l) := by
  unfold methOf at h
  cases h1 : insOf x with
  | none => rw [h1] at h; cases h
  | some u =>
    rw [h1] at h; dsimp only at h
    cases h2 : lookN u.1 P.cls with
    | none => rw [h2] at h; cases h
    | some k =>
      rw [h2] at h; dsimp only at h
      cases h4 : fldAt σ.hp[u.2]? with
      | none => rw [h4] at h; cases h
      | some l =>
        rw [h4] at h; dsimp only at h
        cases h5 : lookN n l with
        | some _ => rw [h5] at h; cases h
        | none => rw [h5] at h; exact ⟨u.1, u.2, k, l, insOf_inv h1, h2, h, h5, fldAt_inv h4⟩

section
variable {G : Gl} {Φ : Fm} {d : Nat} {own : Led} {σ : St} {h h' : Heap} {m : Nm} {trk frz : Led} {s : Shared} {E : Value → Shared → Prop} {P : Prg}
theorem ins_at (r : Re G Φ own σ h m trk frz) {C i : Nat} {x' : Value} {l : List (Nat × AV)} (hv : VR G (trk.map (·.1)) frz (.ins C i) x') (hl : σ.hp[i]? = some (.fld l)) :
    ∃ dx es n, x' = .ref (dx + 1) ∧ trk[i]? = some (dx, dictOf es n) ∧ All2 (FldR G.an G.hb (trk.map (·.1)) frz) l es ∧ InstAt h (dx + 1) (instObj C dx) C (some (dictOf es n)) := by
  cases hv with | ins a b =>
    obtain ⟨o, ho, hr⟩ := r.obj a hl
    cases hr with | fld hr =>
      refine ⟨_, _, _, rfl, ho, hr, InstAt.of_news r.N ?_ (List.mem_append_left _ (List.mem_of_getElem? ho))⟩
      exact List.mem_append_right _ (List.mem_append_left _ b)
theorem VRel.handed {ι : List Addr} {v : AV} {v' : Value} (h : VR G ι frz v v') : handedIn v' = true := by
  cases h with
  | p h => cases h <;> rfl
  | obj _ => rfl
  | ins _ _ => rfl

theorem sx_att {a : Expr} {nm : Str} {pos : Pos} {n : Nat} {ra : St → Out AV} (ok : FmOk G Φ d) (hcl : ClssOk G P) (hn : G.an[n]? = some nm) (hb : abOk a = true) (ha : SEx G Φ a ra) :
    SEx G Φ (.Attribute a nm pos) (fun σ => (ra σ).bind fun x σ => ofO (attOf P x n σ) .ok σ) := by
  intro own σ s m trk frz Q E r p
  refine Attribute_any_ (ha own σ s m trk frz _ E r (p.bind fun x σ₁ x' h₁ tk₁ trk₁ frz₁ _ r₁ e₁ f₁ v₁ p₁ => ?_)) (by rw [arm_eval_Attribute, abOk_eq hb])
  cases hat : attOf P x n σ₁ with
  | none => rw [hat] at p₁; exact p₁.elim
  | some v =>
    rw [hat] at p₁
    unfold attOf at hat
    cases hq : fldsOf P x n σ₁ with
    | none => rw [hq] at hat; cases hat
    | some q =>
      rw [hq] at hat
      obtain ⟨C, k, rfl, hk, hf, hl⟩ := fldsOf_inv hq
      obtain ⟨dx, es, z, rfl, ht, hr, I⟩ := ins_at r₁ v₁ hl
      have W := hcl C k hk
      obtain ⟨_, attr, w1, w2⟩ := W.fl n nm hf hn
      obtain ⟨v', g1, g2⟩ := fld_get ok.na hn hr hat
      exact get_own r₁.F ok.X I W.pg W.hd w1 w2 g1 g2.handed (Post.ret (tk := tk₁ + 1) p₁ r₁ g2)

theorem sx_umeth {a : Expr} {nm : Str} {ap pos : Pos} {args : List Expr} {n : Nat} {ra : St → Out AV} {rl : St → Out (List AV)} {rc : Nat → List AV → St → Out AV} (ok : FmOk G Φ d) (hcl : ClssOk G P) (hn : G.an[n]? = some nm) (hb : abOk a = true) (hp : (ap.endLine == pos.line) = true) (hlen : Nat.blt args.length 29 = true)
    (hc : noStars args = true) (ha : SEx G Φ a ra) (hl : SExs G Φ args rl) (hr : SCl G d rc) :
    SEx G Φ (.Call (.Attribute a nm ap) args [] pos) (fun σ => (ra σ).bind fun x σ => ofO (methOf P x n σ) (fun f σ => (rl σ).bind fun vs σ => rc f (x :: vs) σ) σ) := by
  intro own σ s m trk frz Q E r p
  refine methodCall_of hc hb hp hlen (ha own σ s m trk frz _ E r (p.bind fun x σ₁ x' h₁ tk₁ trk₁ frz₁ _ r₁ e₁ f₁ v₁ p₁ => ?_))
  intro pl
  cases hm : methOf P x n σ₁ with
  | none => rw [hm] at p₁; exact p₁.elim
  | some f =>
    rw [hm] at p₁
    obtain ⟨C, i, k, l, rfl, hk, hf, hno, hl'⟩ := methOf_inv hm
    have v₀ := v₁
    obtain ⟨dx, es, z, rfl, ht, hq, I⟩ := ins_at r₁ v₁ hl'
    have W := hcl C k hk
    obtain ⟨w1, w2, w3⟩ := W.mt n f nm hf hn
    refine method_fn (ok.X.keeps r₁.F.keep) I (plainGet_of W.pg).1 (plainGet_of W.pg).2 w1 w2 (by show (lookIn nm (dictOf es z)).map _ = _; rw [lookIn_dict, fld_no ok.na hn hq hno]; rfl) ?_
    have dp := ok.dp
    have un := ok.un
    refine callWith_of (P := fun h => G.K.In h) (by rw [nostar hc]; rfl) (keeps_K w3) (args_of hc (hl pos own σ₁ _ m trk₁ frz₁ _ E r₁ (Post.bind p₁ fun vs σ₂ vs' h₂ tk₂ trk₂ frz₂ _ r₂ e₂ f₂ v₂ p₂ => ⟨ok.X.keeps r₂.F.keep, ?_⟩)))
    refine wpAny_call (hr Φ d Φ.A ok (Around.frames_deeper ok.B.stack) dp (by show Φ.A₀.units + 3 + 20 * (d + 1) < _; exact un) ok.hd f (.ins C i :: vs) _ own σ₂ _ m trk₂ frz₂ _ r₂ (.cons (v₀.mono e₂ f₂) v₂) ?_)
    revert p₂
    generalize rc f _ σ₂ = o
    intro p₂
    cases o with
    | ok a σ' => exact p₂
    | exc a σ' => exact p₂
    | stuck => exact p₂
end
end Mine
namespace Mine
open PySem PySem.W PyProof.Rows PySem.Calls PySem.SeqAt

theorem tc_frames (A : Around) (C : Addr) (vals : List Value) : (A.under (.builtin "type.__call__" ⟨.ref C :: vals, []⟩)).frames = A.frames := by
  show pushEnvs [] A.frames = _
  cases A.frames <;> rfl
theorem tc_units (A : Around) (C : Addr) (vals : List Value) : (A.under (.builtin "type.__call__" ⟨.ref C :: vals, []⟩)).units ≤ A.units + 1 := Nat.le_refl _
section
variable {G : Gl} {Φ : Fm} {d : Nat} {own : Led} {σ : St} {h h' : Heap} {m : Nm} {trk frz : Led} {s : Shared} {E : Value → Shared → Prop} {P : Prg}

/-- the ledger of a new object -/
theorem Re.make {C : Nat} (r : Re G Φ own σ h m trk frz) : Re G Φ own { σ with hp := σ.hp ++ [.fld []] } ((h.push emptyDict).push (instObj C h.objs.size)) m (trk ++ [(h.objs.size, emptyDict)]) ((h.objs.size + 1, instObj C h.objs.size) :: frz) := by
  have N1 := r.N.push r.F emptyDict
  have r1 : Re G Φ own { σ with hp := σ.hp ++ [.fld []] } (h.push emptyDict) m (trk ++ [(h.objs.size, emptyDict)]) frz :=
    r.pushT (r.F.push _) N1 (fun p hp => Heap.lt_size (r.N p hp).1) (.fld (es := []) (n := _) .nil) (Nat.zero_le _)
  have N2 := r1.N.push r1.F (instObj C h.objs.size)
  rw [Heap.size_push] at N2
  exact r1.pushF (r1.F.push _) N2 (fun p hp => by have := Heap.lt_size (r1.N p hp).1; rwa [Heap.size_push] at this)

theorem code_new {C : Nat} {k : Cls} {vs : List AV} {vs' : List Value} {rc : Nat → List AV → St → Out AV} {Q : Value → Shared → Prop} (ok : FmOk G Φ (d + 1)) (W : ClsW G C k) (hr : SCl G d rc) (r : Re G Φ own σ s.heap m trk frz) (hv : All2 (VR G (trk.map (·.1)) frz) vs vs')
    (p : Post (VR G) G Φ own m trk frz s ((rc k.init (.ins C σ.hp.length :: vs) { σ with hp := σ.hp ++ [.fld []] }).bind fun v τ => match isNone v with | true => .ok (.ins C σ.hp.length) τ | false => .stuck) Q E) :
    wpAny (model G.prog G.w) Φ.A (call (.ref C) vs') Q E s := by
  refine wpAny_call ?_
  obtain ⟨hh, g, dd, t, os⟩ := s
  have X : G.K.In hh := ok.X.keeps r.F.keep
  refine make_core (makes_of X W.mks) (looks_findIn X W.ini) (fun self => bind_fn X self W.inf) (.inl rfl) ?_
  have r1 := r.make (C := C)
  have dp := ok.dp
  have un := ok.un
  have ln := r.len
  have pre : trk.map (·.1) <+: (trk ++ [(hh.objs.size, emptyDict)]).map (·.1) := ⟨[hh.objs.size], by simp⟩
  have sub : ∀ q ∈ frz, q ∈ (hh.objs.size + 1, instObj C hh.objs.size) :: frz := fun q hq => .tail _ hq
  have hself : ∀ {ι : List Addr} {fz : Led}, (trk ++ [(hh.objs.size, emptyDict)]).map (·.1) <+: ι → (∀ q ∈ (hh.objs.size + 1, instObj C hh.objs.size) :: frz, q ∈ fz) → VR G ι fz (.ins C σ.hp.length) (.ref (hh.objs.size + 1)) := by
    intro ι fz h1 h2
    refine .ins (prefix_get h1 ?_) (h2 _ (.head _))
    rw [ln, List.map_append, List.getElem?_append_right (by simp)]
    simp
  have p' := Post.later (h₁ := (hh.push emptyDict).push (instObj C hh.objs.size)) (tk₁ := t) p pre sub
  have q : Post (VR G) G Φ own m (trk ++ [(hh.objs.size, emptyDict)]) ((hh.objs.size + 1, instObj C hh.objs.size) :: frz) ⟨(hh.push emptyDict).push (instObj C hh.objs.size), g, dd, t, os⟩ (rc k.init (.ins C σ.hp.length :: vs) { σ with hp := σ.hp ++ [.fld []] }) (fun v s' => v = .none ∧ Q (.ref (hh.objs.size + 1)) s') E := Post.bind p' fun v σ₂ v' h₂ tk₂ trk₂ frz₂ _ r₂ e₂ f₂ v₂ p₂ => ?_
  refine hr Φ (d + 1) (Φ.A.under (.builtin "type.__call__" ⟨.ref C :: vs', []⟩)) ok (by rw [tc_frames]; exact Around.frames_deeper ok.B.stack) ?_ ?_ ok.hd k.init (.ins C σ.hp.length :: vs) _ own _ _ m _ _ (InitBack (hh.objs.size + 1) (fun r s' => match r with | .ok (.ret v) => Q v s' | .ok _ => False | .error e => E e s')) r1 (.cons (hself (List.prefix_refl _) fun _ h => h) (hv.mono fun _ _ q => q.mono pre sub)) q
  · rw [depth_under_kw]; show Φ.A₀.depth + 1 + 1 + d < _; omega
  · have := tc_units Φ.A C vs'; have e : Φ.A.units = Φ.A₀.units + 3 := rfl; omega
  · cases hn : isNone v with
    | false => rw [hn] at p₂; exact p₂.elim
    | true =>
      rw [hn] at p₂
      rw [isNone_inv hn] at v₂
      cases v₂ with | p v₂ =>
        cases v₂
        exact ⟨rfl, Post.ret0 p₂ r₂ (hself e₂ f₂)⟩

theorem sx_new {x : Str} {fp pos : Pos} {args : List Expr} {C : Nat} {rl : St → Out (List AV)} {ih : Nat → Ev} (ok : FmOk G Φ d) (hcl : ClssOk G P) (hk : Φ.env.scope.names.lookup x = some .globalImplicit) (hd : (x == ("__debug__" : Str)) = false) (hv : nsIn G.K mainGlobals x = some (some (.ref C))) (hkp : keepIn G.K (.ref C) = true)
    (hc : noStars args = true) (hl : SExs G Φ args rl) (hr : ∀ d, SCl G d (ih d).call) : SEx G Φ (.Call (.Name x fp) args [] pos) (fun σ => (rl σ).bind fun vs σ => newStep P ih C vs d σ) := by
  intro own σ s m trk frz Q E r p
  show wpAny _ _ (eval (.Name x fp) Φ.env >>= fun g => callWith pos g [] (backTo pos (starEach args Φ.env)) []) Q E s
  refine wpAny_bind (name_G ok r hk hd hv ?_)
  refine callWith_of (P := fun h => G.K.In h) (by rw [nostar hc]; rfl) (keeps_K hkp) (args_of hc (hl pos own σ s m trk frz _ E r (p.bind fun vs σ₁ vs' h₁ tk₁ trk₁ frz₁ _ r₁ e₁ f₁ v₁ p₁ => ⟨ok.X.keeps r₁.F.keep, ?_⟩)))
  cases d with
  | zero => exact p₁.elim
  | succ d =>
    unfold newStep at p₁
    dsimp only at p₁
    cases hk : lookN C P.cls with
    | none => rw [hk] at p₁; exact p₁.elim
    | some k => rw [hk] at p₁; exact code_new ok (hcl C k hk) (hr d) r₁ v₁ p₁

theorem ss_asgA {a e : Expr} {nm : Str} {ap pos : Pos} {n : Nat} {ra re : St → Out AV} (ok : FmOk G Φ d) (hcl : ClssOk G P) (hn : G.an[n]? = some nm) (hs : noSwap e = true) (ha : SEx G Φ a ra) (he : SEx G Φ e re) :
    SSt G Φ (.Assign [.Attribute a nm ap] e pos) (fun fb σ => (re σ).bind fun v σ => (ra σ).bind fun x σ => (match setA P x n v σ with | some τ => .ok .next (trim fb τ) | none => .stuck)) := by
  intro fb own σ s m trk frz Q E r hl p
  refine plainObj_wpAny_Assign_Attribute (he own σ s m trk frz _ E r (p.bind (fun v σ₁ v' h₁ tk₁ trk₁ frz₁ ho r₁ e₁ f₁ v₁ p₁ => ?_) hl)) (noSwap_eq hs _ _ _)
  have hl₁ := len_pre e₁ hl
  refine ha own σ₁ _ m trk₁ frz₁ _ E r₁ (p₁.bind (fun x σ₂ x' h₂ tk₂ trk₂ frz₂ ho₂ r₂ e₂ f₂ v₂ p₂ => ?_) hl₁)
  cases hset : setA P x n v σ₂ with
  | none => rw [hset] at p₂; exact p₂.elim
  | some τ =>
    rw [hset] at p₂
    unfold setA at hset
    cases hq : fldsOf P x n σ₂ with
    | none => rw [hq] at hset; cases hset
    | some q =>
      rw [hq] at hset; dsimp only at hset
      cases hlen : Nat.blt q.2.length 900 with
      | false => rw [hlen] at hset; cases hset
      | true =>
        rw [hlen] at hset
        have hlen : q.2.length < 900 := Nat.le_of_ble_eq_true hlen
        cases hset
        obtain ⟨C, k, rfl, hk, hf, hfl⟩ := fldsOf_inv hq
        obtain ⟨dx, es, z, rfl, ht, hr, I⟩ := ins_at r₂ v₂ hfl
        have W := hcl C k hk
        obtain ⟨w0, attr, w1, w2⟩ := W.fl n nm hf hn
        have vv := v₁.mono e₂ f₂
        have hes := hr.length
        refine set_dict (w := G.w) r₂.F ok.X r₂.N I rfl W.sa W.po w0 W.hd (fld_some ok.na hn hr) rfl (upd_of r₂.nd ht) (Nat.le_trans (putL_len es) (by omega)) fun h' F' N' => ?_
        have hbd := r₂.bd q.1 _ hfl
        have hyb := vv.bd_le
        rw [List.length_map, ← r₂.len] at hyb
        have r₃ := r₂.setT (ao := .fld (putF n v q.2)) (hw' := match Nat.ble v.bd (Nat.max q.1 σ₂.hw) with | true => σ₂.hw | false => v.bd) ht F' N' (.fld (fld_put ok.na hn hr vv _ _)) ?_ ?_ ?_
        · have p₃ := PostS.later (h₁ := h') (tk₁ := tk₂ + 2) (trk₁ := trk₂.set q.1 (dx, dictOf (putL nm (PyData.keyHash G.w.params nm) (.str nm (tk₂ + 1)) v' es) (putN nm es z))) p₂ (by rw [set_keys ht]; exact List.take_prefix _ _) (fun _ q => q) (len_pre e₂ hl₁)
          exact PostS.trimmed (E := E) (tk := tk₂ + 2) p₃ r₃
        · split
          · exact Nat.le_refl _
          · rename_i hz; exact Nat.le_trans (Nat.le_max_right _ _) (Nat.le_of_lt (bleFalse hz))
        · split
          · exact r₂.hw
          · exact hyb
        · show bds ((putF n v q.2).map (·.2)) ≤ _
          rw [bds_le]
          intro u hu
          have hold : ∀ u ∈ q.2.map (·.2), u.bd ≤ Nat.max q.1 σ₂.hw := fun u hu => Nat.le_trans (bds_le.mp (Nat.le_refl _) u hu) hbd
          split
          · rename_i hz
            rcases putF_mem hu with rfl | hu
            · exact Nat.le_of_ble_eq_true hz
            · exact hold u hu
          · rename_i hz
            have := bleFalse hz
            rcases putF_mem hu with rfl | hu
            · exact Nat.le_max_right _ _
            · exact Nat.le_trans (hold u hu) (Nat.max_le.mpr ⟨Nat.le_max_left _ _, Nat.le_trans (Nat.le_max_right _ _) (Nat.le_trans (Nat.le_of_lt this) (Nat.le_max_right _ _))⟩)
end
end Mine
namespace Mine
open PySem PySem.W PyProof.Rows PySem.Calls PySem.SeqAt

section
variable {f : CC → Expr → Ex → Bool} {g : CC → List Expr → Ex → Bool} {c : CC} {e : Expr} {v : Vw}
theorem isGlob_inv {x : Str} (h : isGlob c x = true) : c.scope.names.lookup x = some .globalImplicit ∧ (x == ("__debug__" : Str)) = false := by
  simp only [isGlob, Bool.and_eq_true, Bool.not_eq_true', beq_iff_eq] at h
  exact ⟨h.1, h.2⟩
theorem isBt_inv {x : Str} {v : Value → Bool} (h : isBt c x v = true) : (c.scope.names.lookup x = some .globalImplicit ∧ (x == ("__debug__" : Str)) = false) ∧ nsIn c.K mainGlobals x = some none ∧ (∃ u, bootBuiltins x = some u ∧ v u = true) ∧ x ≠ "__name__" := by
  unfold isBt at h
  simp only [Bool.and_eq_true] at h
  obtain ⟨⟨⟨h1, h2⟩, h3⟩, h4⟩ := h
  refine ⟨isGlob_inv h1, eq_of_beq h2, ?_, by simpa using h4⟩
  split at h3
  · rename_i u hu; exact ⟨u, hu, h3⟩
  · cases h3
theorem isTop_inv {x : Str} {k : Nat} (h : isTop c x k = true) : (c.scope.names.lookup x = some .globalImplicit ∧ (x == ("__debug__" : Str)) = false) ∧ nsIn c.K mainGlobals x = some (some (.ref k)) ∧ keepIn c.K (.ref k) = true := by
  unfold isTop at h
  simp only [Bool.and_eq_true] at h
  exact ⟨isGlob_inv h.1.1, eq_of_beq h.1.2, h.2⟩

theorem eqL_eq' {a b : List Nat} (h : eqL a b = true) : a = b := by rw [eqL_eq] at h; exact of_decide_eq_true h
theorem eqP_eq : ∀ (n : Nat) {x y : PV}, eqP n x y = true → x = y
  | 0, _, _, h => by cases h
  | n + 1, x, y, h => by
    unfold eqP at h
    split at h
    · rfl
    · rw [eq_of_beq h]
    · rw [eq_of_beq h]
    · rw [eqL_eq' h]
    · rename_i a b
      have key : ∀ (a b : List PV), eqP.eqPs (eqP n) a b = true → a = b := by
        intro a
        induction a with
        | nil => intro b h; cases b with | nil => rfl | cons _ _ => cases h
        | cons x r ih =>
          intro b h
          cases b with
          | nil => cases h
          | cons y t =>
            have h : (eqP n x y && eqP.eqPs (eqP n) r t) = true := h
            rw [Bool.and_eq_true] at h
            rw [eqP_eq n h.1, ih t h.2]
      rw [key a b h]
    · cases h

theorem ff {p : Prop} (h : false = true) : p := absurd h Bool.false_ne_true
theorem and2 {a b : Bool} (h : (a && b) = true) : a = true ∧ b = true := by rwa [Bool.and_eq_true] at h
theorem and3 {a b c : Bool} (h : (a && (b && c)) = true) : a = true ∧ b = true ∧ c = true := by rwa [Bool.and_eq_true, Bool.and_eq_true] at h
theorem ckBin_inv {o : Bop} {a b : Ex} (hk : v.Ok e) (h : ckBin f c o a b v = true) : ∃ x op y pos, e = .BinOp x op y pos ∧ bopOk op o = true ∧ f c x a = true ∧ f c y b = true := by
  cases v <;> first | exact ff h | exact ⟨_, _, _, _, hk, and3 h⟩
theorem ckCmp_inv {o : Cop} {a b : Ex} (hk : v.Ok e) (h : ckCmp f c o a b v = true) : ∃ x op y pos, e = .Compare x [op] [y] pos ∧ (copOk op o && !behindInMarks op y) = true ∧ f c x a = true ∧ f c y b = true := by
  cases v <;> first | exact ff h | exact ⟨_, _, _, _, hk, and3 h⟩
theorem ckUn_inv {w : UnaryOp → Expr → Bool} (hk : v.Ok e) (h : v.on (un := fun op x _ => w op x) = true) : ∃ op x pos, e = .UnaryOp op x pos ∧ w op x = true := by
  cases v <;> first | exact ff h | exact ⟨_, _, _, hk, h⟩
theorem ckNot_inv {a : Ex} (hk : v.Ok e) (h : ckNot f c a v = true) : ∃ x pos, e = .UnaryOp .Not x pos ∧ f c x a = true := by
  obtain ⟨op, x, pos, rfl, k⟩ := ckUn_inv hk h
  cases op <;> first | cases k | exact ⟨_, _, rfl, k⟩
theorem ckNeg_inv {a : Ex} (hk : v.Ok e) (h : ckNeg f c a v = true) : ∃ x pos, e = .UnaryOp .USub x pos ∧ f c x a = true := by
  obtain ⟨op, x, pos, rfl, k⟩ := ckUn_inv hk h
  cases op <;> first | cases k | exact ⟨_, _, rfl, k⟩
theorem ckBool_inv {w : Bool} {a b : Ex} (hk : v.Ok e) (h : ckBool f c w a b v = true) : ∃ op x y l pos, e = .BoolOp op (x :: y :: l) pos ∧ (isAnd op == w) = true ∧ f c x a = true ∧ (match l with | [] => f c y b | _ :: _ => f c (.BoolOp op (y :: l) pos) b) = true := by
  cases v <;> first | exact ff h | exact ⟨_, _, _, _, _, hk, and3 h⟩
theorem ckIte_inv {t a b : Ex} (hk : v.Ok e) (h : ckIte f c t a b v = true) : ∃ z x y pos, e = .IfExp z x y pos ∧ f c z t = true ∧ f c x a = true ∧ f c y b = true := by
  cases v <;> first | exact ff h | exact ⟨_, _, _, _, hk, and3 h⟩
theorem ckTup_inv {l : Ex} (hk : v.Ok e) (h : ckTup g c l v = true) : ∃ es k pos, e = .Tuple es k pos ∧ g c es l = true := by
  cases v <;> first | exact ff h | exact ⟨_, _, _, hk, h⟩
theorem ckLst_inv {l : Ex} (hk : v.Ok e) (h : ckLst g c l v = true) : ∃ es pos, e = .List es pos ∧ g c es l = true := by
  cases v <;> first | exact ff h | exact ⟨_, _, hk, h⟩
theorem ckIdx_inv {a b : Ex} (hk : v.Ok e) (h : ckIdx f c a b v = true) : ∃ x y pos, e = .Subscript x y pos ∧ noSlice y = true ∧ f c x a = true ∧ f c y b = true := by
  cases v <;> first | exact ff h | exact ⟨_, _, _, hk, and3 h⟩
theorem ckSli_inv {a lo hi : Ex} (hk : v.Ok e) (h : ckSli f c a lo hi v = true) : ∃ x l u sp pos, e = .Subscript x (.Slice l u none sp) pos ∧ f c x a = true ∧ ckOpt f c l lo = true ∧ ckOpt f c u hi = true := by
  cases v <;> first | exact ff h | exact ⟨_, _, _, _, _, hk, and3 h⟩
theorem ckCallN_inv {w : Str → List Expr → Bool} (hk : v.Ok e) (h : v.on (call := fun x _ args _ => w x args) = true) : ∃ x fp args pos, e = .Call (.Name x fp) args [] pos ∧ w x args = true := by
  cases v <;> first | exact ff h | exact ⟨_, _, _, _, hk, h⟩
theorem ckCall_inv {k : Nat} {l : Ex} (hk : v.Ok e) (h : ckCall g c k l v = true) : ∃ x fp args pos, e = .Call (.Name x fp) args [] pos ∧ isTop c x k = true ∧ g c args l = true := by
  obtain ⟨x, fp, args, pos, rfl, k⟩ := ckCallN_inv hk h
  exact ⟨_, _, _, _, rfl, and2 k⟩
theorem ckBf_inv {b : BF} {l : Ex} (hk : v.Ok e) (h : ckBf g c b l v = true) : ∃ x fp args pos, e = .Call (.Name x fp) args [] pos ∧ isBt c x (BFv b) = true ∧ g c args l = true := by
  obtain ⟨x, fp, args, pos, rfl, k⟩ := ckCallN_inv hk h
  exact ⟨_, _, _, _, rfl, and2 k⟩
theorem ckAtt_inv {a : Ex} {i : Nat} (hk : v.Ok e) (h : ckAtt f c a i v = true) : ∃ x n pos, e = .Attribute x n pos ∧ (c.an[i]? == some n) = true ∧ abOk x = true ∧ f c x a = true := by
  cases v <;> first | exact ff h | exact ⟨_, _, _, hk, and3 h⟩
theorem ckMeth_inv {a : Ex} {i : Nat} {b : Option BM} {l : Ex} (hk : v.Ok e) (h : ckMeth f g c a i b l v = true) : ∃ x n ap args pos, e = .Call (.Attribute x n ap) args [] pos ∧ c.an[i]? = some n ∧ (∀ m, b = some m → n = m.name) ∧ abOk x = true ∧ (ap.endLine == pos.line) = true ∧ Nat.blt args.length 29 = true ∧ f c x a = true ∧ g c args l = true := by
  cases v <;> first | exact ff h | skip
  obtain ⟨h1, h5⟩ := and2 h
  obtain ⟨h1, h3⟩ := and2 h1
  obtain ⟨h1, h2⟩ := and2 h1
  obtain ⟨h3, h4⟩ := and2 h3
  refine ⟨_, _, _, _, _, hk, eq_of_beq h1, fun m hm => ?_, h3, h4, and3 h5⟩
  subst hm
  exact eq_of_beq h2
theorem ckCmpr_inv {i : Nat} {rng : Md} {src tst elt : Ex} (hk : v.Ok e) (h : ckCmpr f c i rng src tst elt v = true) : ∃ z x px it ifs sc pos, e = .ListComp z [⟨.Name x px, it, ifs, 0⟩] sc pos ∧ i = c.ns.length ∧ compSc c sc x = true ∧ ckIter f c rng src it = true ∧ ckTst f (c.inner sc x) tst ifs = true ∧ f (c.inner sc x) z elt = true := by
  cases v <;> first | exact ff h | skip
  obtain ⟨h1, h2⟩ := and2 h
  obtain ⟨h1, h3⟩ := and2 h1
  exact ⟨_, _, _, _, _, _, _, hk, Nat.eq_of_beq_eq_true h1, h3, and3 h2⟩
theorem ckTst_inv {x : Ex} {l : List Expr} (h : ckTst f c x l = true) : isNil x = true ∧ l = [] ∨ ∃ t, isNil x = false ∧ l = [t] ∧ f c t x = true := by
  cases l with
  | nil => exact .inl ⟨h, rfl⟩
  | cons t r => cases r with
    | cons _ _ => cases h
    | nil => exact .inr ⟨_, (Bool.not_eq_true' _).mp (and2 h).1, rfl, (and2 h).2⟩
end
theorem ckIter_inv {c : CC} {n : Nat} {rng : Md} {a : Ex} {e : Expr} (h : ckIter (ck n).e c rng a e = true) : Ci c a e rng := by
  cases rng with
  | rev =>
    obtain ⟨x, fp, args, pos, rfl, k⟩ := ckCallN_inv (vw e).2 h
    cases args with
    | nil => cases k
    | cons y r => cases r with
      | cons _ _ => cases k
      | nil =>
        obtain ⟨h1, h2, h3⟩ := and3 k
        obtain ⟨⟨a1, a2⟩, a3, ⟨u, a4, a5⟩, a6⟩ := isBt_inv h1
        exact .rev a1 a2 a3 (by rw [a4, eq_of_beq a5]) a6 h2 ⟨n, h3⟩
  | seq => exact .seq (and2 h).1 ⟨n, (and2 h).2⟩
  | rng =>
    obtain ⟨x, fp, args, pos, rfl, k⟩ := ckCallN_inv (vw e).2 h
    cases args with
    | nil => cases k
    | cons y r => cases r with
      | cons _ _ => cases k
      | nil =>
        obtain ⟨h1, h2, h3⟩ := and3 k
        obtain ⟨⟨a1, a2⟩, a3, ⟨u, a4, a5⟩, a6⟩ := isBt_inv h1
        exact .rng a1 a2 a3 (by rw [a4, eq_of_beq a5]) a6 h2 ⟨n, h3⟩
theorem stars_of {c : CC} : ∀ (n : Nat) {l : List Expr} {x : Ex}, (ck n).l c l x = true → noStars l = true
  | 0, _, _, h => by cases h
  | n + 1, l, x, h => by
    have h : ckL (ck n).e (ck n).l c l x = true := h
    unfold ckL at h
    split at h
    · cases l with
      | nil => rfl
      | cons _ _ => cases h
    · split at h
      · rfl
      · simp only [Bool.and_eq_true] at h
        show (noStar _ && noStars _) = true
        rw [h.1, stars_of n h.2.2]; rfl
    · cases h

structure SndF (G : Gl) (P : Prg) (n d : Nat) (Φ : Fm) : Prop where
  ex : ∀ e x, Cm (Φ.cc G) e x → SEx G Φ e ((ev P n d).ex x)
  exs : ∀ e x, Cms (Φ.cc G) e x → SExs G Φ e ((ev P n d).exs x)
  tst : ∀ e x, Cm (Φ.cc G) e x → STs G Φ e ((ev P n d).tst x)
  sts : ∀ e x, Cts (Φ.cc G) e x → SSts G Φ e (fun fb => (ev P n d).sts fb x)
structure Snd (G : Gl) (P : Prg) (n : Nat) : Prop where
  fm : ∀ d Φ, FmOk G Φ d → SndF G P n d Φ
  call : ∀ d, SCl G d ((ev P n d).call)

section
variable {G : Gl} {Φ : Fm} {d n : Nat} {P : Prg}

theorem snd_cst (ok : FmOk G Φ d) {v : PV} {e : Expr} {u : Vw} (hk : u.Ok e) (h : ckCst (Φ.cc G) v u = true) : SEx G Φ e (fun σ => .ok (.p v) σ) := by
  cases u <;> first | exact ff h | skip
  · rename_i k _ _
    cases hk
    cases k <;> cases v <;> first | cases h | skip
    · exact sx_none
    · rw [eq_of_beq h]; exact sx_bool
    · rw [eq_of_beq h]; exact sx_int
    · rw [eq_of_beq h]; exact sx_str
  · cases hk
    obtain ⟨h, h3⟩ := and2 h
    obtain ⟨h1, h2⟩ := isGlob_inv h
    split at h3
    · rename_i u hu
      split at h3
      · rename_i p hp
        rw [← eqP_eq 20 h3]
        exact sx_glob ok h1 h2 hu hp
      · cases h3
    · cases h3
theorem snd_loc (ok : FmOk G Φ d) {i : Nat} {e : Expr} {u : Vw} (hk : u.Ok e) (h : ckLoc (Φ.cc G) i u = true) : SEx G Φ e (fun σ => locR i σ) := by
  cases u <;> first | exact ff h | skip
  · rename_i x _
    cases hk
    have h : isSlot (Φ.cc G) x i = true := h
    simp only [isSlot, isLoc, isCel, Bool.and_eq_true, Bool.or_eq_true, Bool.not_eq_true', beq_iff_eq] at h
    obtain ⟨hd, (⟨⟨h1, h2⟩, h3⟩ | ⟨h2, h3⟩) | ⟨⟨⟨h1, h2⟩, h3⟩, h4⟩⟩ := h
    · exact sx_loc ok h1 h3 h2 hd
    · exact sx_cel ok h3 h2 hd
    · have e : i = Φ.ns.length + (i - Φ.ns.length) := by
        have : Φ.ns.length ≤ i := Nat.le_of_ble_eq_true h3
        omega
      rw [e]
      exact sx_cvr ok h1 h4 h2 hd
theorem snd_opt {n : Nat} (F : SndF G P n d Φ) {k : Nat} {e : Option Expr} {x : Ex} (h : ckOpt (ck k).e (Φ.cc G) e x = true) : SOp G Φ e (optStep (ev P n) d x) := by
  unfold ckOpt at h
  unfold optStep
  cases e with
  | none => dsimp only at h; rw [h]; exact so_none
  | some e =>
    simp only [Bool.and_eq_true, Bool.not_eq_true'] at h
    rw [h.1]
    exact so_some (F.ex _ _ ⟨k, h.2⟩)

theorem snd_ex (hcl : ClssOk G P) (Sn : ∀ j, j ≤ n → Snd G P j) (ok : FmOk G Φ d) : ∀ e x, Cm (Φ.cc G) e x → SEx G Φ e ((ev P (n + 1) d).ex x) := by
  intro e x hc
  have S := Sn n (Nat.le_refl _)
  have S' : ∀ j, j < n → Snd G P j := fun j hj => Sn j (Nat.le_of_lt hj)
  have F := S.fm d Φ ok
  obtain ⟨k, hc⟩ := hc
  cases k with
  | zero => cases hc
  | succ k =>
  have fe : ∀ {e x}, (ck k).e (Φ.cc G) e x = true → SEx G Φ e ((ev P n d).ex x) := fun h => F.ex _ _ ⟨k, h⟩
  have fl : ∀ {e x}, (ck k).l (Φ.cc G) e x = true → SExs G Φ e ((ev P n d).exs x) := fun h => F.exs _ _ ⟨k, h⟩
  cases x with
  | cst v => exact snd_cst ok (vw e).2 hc
  | loc i => exact snd_loc ok (vw e).2 hc
  | bin o a b =>
    obtain ⟨x, op, y, pos, rfl, ho, ha, hb⟩ := ckBin_inv (vw e).2 hc
    cases o <;> cases op <;> first | cases ho | skip
    · exact sx_bin (fe ha) (fe hb) (sb_add ok)
    · exact sx_bin (fe ha) (fe hb) sb_sub
    · exact sx_bin (fe ha) (fe hb) (sb_mul ok)
    · exact sx_bin (fe ha) (fe hb) sb_fdiv
    · exact sx_bin (fe ha) (fe hb) sb_mod
  | cmp o a b =>
    obtain ⟨x, op, y, pos, rfl, ho, ha, hb⟩ := ckCmp_inv (vw e).2 hc
    obtain ⟨ho, hm⟩ := and2 ho
    have hm := (Bool.not_eq_true' _).mp hm
    cases o <;> cases op <;> first | cases ho | skip
    · exact sx_cmp hm (fe ha) (fe hb) (sc_eqA ok)
    · exact sx_cmp hm (fe ha) (fe hb) (sc_ne ok)
    · exact sx_cmp hm (fe ha) (fe hb) sc_lt
    · exact sx_cmp hm (fe ha) (fe hb) sc_le
    · exact sx_cmp hm (fe ha) (fe hb) sc_gt
    · exact sx_cmp hm (fe ha) (fe hb) sc_ge
    · exact sx_cmp hm (fe ha) (fe hb) (sc_in ok)
    · exact sx_cmp hm (fe ha) (fe hb) (sc_notin ok)
    · exact sx_cmp hm (fe ha) (fe hb) sc_is
    · exact sx_cmp hm (fe ha) (fe hb) sc_isnot
  | not a => obtain ⟨x, pos, rfl, ha⟩ := ckNot_inv (vw e).2 hc; exact sx_not ok (fe ha)
  | neg a => obtain ⟨x, pos, rfl, ha⟩ := ckNeg_inv (vw e).2 hc; exact sx_neg (fe ha)
  | and a b =>
    obtain ⟨op, x, y, l, pos, rfl, hw, ha, hb⟩ := ckBool_inv (vw e).2 hc
    cases op with
    | Or => cases hw
    | And => cases l with
      | nil => exact sx_and ok (fe ha) (sx_one (fe hb))
      | cons _ _ => exact sx_and ok (fe ha) (fe hb)
  | or a b =>
    obtain ⟨op, x, y, l, pos, rfl, hw, ha, hb⟩ := ckBool_inv (vw e).2 hc
    cases op with
    | And => cases hw
    | Or => cases l with
      | nil => exact sx_or ok (fe ha) (sx_one (fe hb))
      | cons _ _ => exact sx_or ok (fe ha) (fe hb)
  | ite t a b => obtain ⟨z, x, y, pos, rfl, ht, ha, hb⟩ := ckIte_inv (vw e).2 hc; exact sx_ite (F.tst _ _ ⟨k, ht⟩) (fe ha) (fe hb)
  | tup l => obtain ⟨es, _, pos, rfl, hl⟩ := ckTup_inv (vw e).2 hc; exact sx_tup (fl hl)
  | lst l => obtain ⟨es, pos, rfl, hl⟩ := ckLst_inv (vw e).2 hc; exact sx_lst (fl hl)
  | idx a b => obtain ⟨x, y, pos, rfl, hs, ha, hb⟩ := ckIdx_inv (vw e).2 hc; exact sx_idx ok hs (fe ha) (fe hb)
  | sli a lo hi => obtain ⟨x, l, u, sp, pos, rfl, ha, h1, h2⟩ := ckSli_inv (vw e).2 hc; exact sx_sli ok (fe ha) (snd_opt F h1) (snd_opt F h2)
  | callf i l =>
    obtain ⟨x, fp, args, pos, rfl, ht, hl⟩ := ckCall_inv (vw e).2 hc
    obtain ⟨⟨h1, h2⟩, h3, h4⟩ := isTop_inv ht
    exact sx_callf ok h1 h2 h3 h4 (stars_of k hl) (fl hl) (S.call d)
  | new i l =>
    obtain ⟨x, fp, args, pos, rfl, ht, hl⟩ := ckCall_inv (vw e).2 hc
    obtain ⟨⟨h1, h2⟩, h3, h4⟩ := isTop_inv ht
    exact sx_new ok hcl h1 h2 h3 h4 (stars_of k hl) (fl hl) S.call
  | att a i => obtain ⟨x, nm, pos, rfl, h1, h2, ha⟩ := ckAtt_inv (vw e).2 hc; exact sx_att ok hcl (eq_of_beq h1) h2 (fe ha)
  | bf b l =>
    obtain ⟨x, fp, args, pos, rfl, ht, hl⟩ := ckBf_inv (vw e).2 hc
    obtain ⟨⟨h1, h2⟩, h3, ⟨u, h4, h5⟩, h6⟩ := isBt_inv ht
    exact sx_bf ok h1 h2 h3 h4 h6 h5 (stars_of k hl) (fl hl) (sf_of ok h5)
  | meth a i b l =>
    obtain ⟨x, nm, ap, args, pos, rfl, h1, h2, h3, h4, h5, ha, hl⟩ := ckMeth_inv (vw e).2 hc
    cases b with
    | none => exact sx_umeth ok hcl h1 h3 h4 h5 (stars_of k hl) (fe ha) (fl hl) (S.call d)
    | some b => exact sx_bm ok (h2 _ rfl) h3 h4 h5 (stars_of k hl) (fe ha) (fl hl) (sm_of ok)
  | cmpr i rng src tst elt =>
    obtain ⟨z, x, px, it, ifs, sc, pos, rfl, rfl, hs, h1, h2, h3⟩ := ckCmpr_inv (vw e).2 hc
    have hs := compSc_sound hs
    refine sx_cmpr ok (ckIter_inv h1) hs (fun e' he' => F.ex _ _ he') (fun C j hj e ht hi => ?_) ((ckTst_inv h2).imp id fun ⟨t, a, b, _⟩ => ⟨t, a, b⟩) (fun C j hj => ((S' j hj).fm d _ (ok.inner hs)).ex _ _ ⟨k, h3⟩)
    rcases ckTst_inv h2 with ⟨a, _⟩ | ⟨t, a, b, h⟩
    · rw [ht] at a; cases a
    · rw [hi] at b; cases b; exact ((S' j hj).fm d _ (ok.inner hs)).tst _ _ ⟨k, h⟩
  | _ => cases hc

theorem snd_exs (S : Snd G P n) (ok : FmOk G Φ d) : ∀ e x, Cms (Φ.cc G) e x → SExs G Φ e ((ev P (n + 1) d).exs x) := by
  intro e x hc
  have F := S.fm d Φ ok
  obtain ⟨k, hc⟩ := hc
  cases k with
  | zero => cases hc
  | succ k =>
    have hc : ckL (ck k).e (ck k).l (Φ.cc G) e x = true := hc
    cases x with
    | nil => cases e with
      | nil => exact sxs_nil
      | cons _ _ => cases hc
    | cons a r => cases e with
      | nil => cases hc
      | cons e l =>
        simp only [ckL, Bool.and_eq_true] at hc
        exact sxs_cons (noStar_eq hc.1 _ _) (F.ex _ _ ⟨k, hc.2.1⟩) (F.exs _ _ ⟨k, hc.2.2⟩)
    | _ => cases hc

theorem st_last {a : Expr} {op : BoolOp} {pos : Pos} {r : St → Out Bool} (h : STs G Φ a r) (whole : Sem Value) : ∀ own σ s m trk frz Q E, Re G Φ own σ s.heap m trk frz → Post BR G Φ own m trk frz s (r σ) Q E → wpAny (model G.prog G.w) Φ.A (isTrue (.BoolOp op [a] pos) Φ.env whole) Q E s := by
  intro own σ s m trk frz Q E r p
  have mono : ∀ {Q' : Bool → Shared → Prop}, (∀ b s', Q b s' → Q' b s') → wpAny (model G.prog G.w) Φ.A (isTrue a Φ.env (eval a Φ.env)) Q' E s := fun k => wpAny_mono (h own σ s m trk frz Q E r p) k fun _ _ x => x
  cases op with
  | And =>
    refine isTrue_and (mono fun b s' h' => ?_)
    cases b with
    | true => exact isTrue_and_nil h'
    | false => exact h'
  | Or =>
    refine isTrue_or (mono fun b s' h' => ?_)
    cases b with
    | true => exact h'
    | false => exact isTrue_or_nil h'

theorem snd_tst (S : Snd G P n) (ok : FmOk G Φ d) : ∀ e x, Cm (Φ.cc G) e x → STs G Φ e ((ev P (n + 1) d).tst x) := by
  intro e x hc
  have F := S.fm d Φ ok
  have he := F.ex _ _ hc
  obtain ⟨k, hc⟩ := hc
  cases k with
  | zero => cases hc
  | succ k =>
  have ft : ∀ {e x}, (ck k).e (Φ.cc G) e x = true → STs G Φ e ((ev P n d).tst x) := fun h => F.tst _ _ ⟨k, h⟩
  have pl : (∀ (Q : Bool → Shared → Prop) E s, wpAny (model G.prog G.w) Φ.A (eval e Φ.env) (fun v s₁ => wpAny (model G.prog G.w) Φ.A (truthy v) Q E s₁) E s → wpAny (model G.prog G.w) Φ.A (isTrue e Φ.env (eval e Φ.env)) Q E s) → STs G Φ e (tstP (ev P n) d x) := fun h => st_plain ok he h
  cases x with
  | not a => obtain ⟨x, pos, rfl, ha⟩ := ckNot_inv (vw e).2 hc; exact st_not (ft ha)
  | and a b =>
    obtain ⟨op, x, y, l, pos, rfl, hw, ha, hb⟩ := ckBool_inv (vw e).2 hc
    cases op with
    | Or => cases hw
    | And => cases l with
      | nil => exact st_and (ft ha) (fun w => st_last (ft hb) w) _
      | cons _ _ => exact st_and (ft ha) (fun w => ft hb) _
  | or a b =>
    obtain ⟨op, x, y, l, pos, rfl, hw, ha, hb⟩ := ckBool_inv (vw e).2 hc
    cases op with
    | And => cases hw
    | Or => cases l with
      | nil => exact st_or (ft ha) (fun w => st_last (ft hb) w) _
      | cons _ _ => exact st_or (ft ha) (fun w => ft hb) _
  | ite a b c => exact fun own σ s m trk frz Q E r p => p.elim
  | cmp o a b => obtain ⟨x, op, y, pos, rfl, _⟩ := ckCmp_inv (vw e).2 hc; exact pl fun Q E s h => isTrue_of_cmp h
  | cst v => exact pl fun Q E s h => (by have hc : ckCst _ v (vw e).1 = true := hc; generalize vw e = w at hc; obtain ⟨u, hu⟩ := w; cases u <;> first | (cases hu; exact isTrue_plain h) | exact ff hc)
  | loc i => exact pl fun Q E s h => (by have hc : ckLoc _ i (vw e).1 = true := hc; generalize vw e = w at hc; obtain ⟨u, hu⟩ := w; cases u <;> first | (cases hu; exact isTrue_plain h) | exact ff hc)
  | bin o a b => obtain ⟨x, op, y, pos, rfl, _⟩ := ckBin_inv (vw e).2 hc; exact pl fun Q E s h => isTrue_plain h
  | neg a => obtain ⟨x, pos, rfl, _⟩ := ckNeg_inv (vw e).2 hc; exact pl fun Q E s h => isTrue_plain h
  | tup l => obtain ⟨es, _, pos, rfl, _⟩ := ckTup_inv (vw e).2 hc; exact pl fun Q E s h => isTrue_plain h
  | lst l => obtain ⟨es, pos, rfl, _⟩ := ckLst_inv (vw e).2 hc; exact pl fun Q E s h => isTrue_plain h
  | idx a b => obtain ⟨x, y, pos, rfl, _⟩ := ckIdx_inv (vw e).2 hc; exact pl fun Q E s h => isTrue_plain h
  | sli a lo hi => obtain ⟨x, l, u, sp, pos, rfl, _⟩ := ckSli_inv (vw e).2 hc; exact pl fun Q E s h => isTrue_plain h
  | callf i l => obtain ⟨x, fp, args, pos, rfl, _⟩ := ckCall_inv (vw e).2 hc; exact pl fun Q E s h => isTrue_plain h
  | new i l => obtain ⟨x, fp, args, pos, rfl, _⟩ := ckCall_inv (vw e).2 hc; exact pl fun Q E s h => isTrue_plain h
  | att a i => obtain ⟨x, nm, pos, rfl, _⟩ := ckAtt_inv (vw e).2 hc; exact pl fun Q E s h => isTrue_plain h
  | bf b l => obtain ⟨x, fp, args, pos, rfl, _⟩ := ckBf_inv (vw e).2 hc; exact pl fun Q E s h => isTrue_plain h
  | meth a i b l => obtain ⟨x, nm, ap, args, pos, rfl, _⟩ := ckMeth_inv (vw e).2 hc; exact pl fun Q E s h => isTrue_plain h
  | cmpr i rng src tst elt => obtain ⟨z, x, px, it, ifs, sc, pos, rfl, _⟩ := ckCmpr_inv (vw e).2 hc; exact pl fun Q E s h => isTrue_plain h
  | _ => cases hc
end
end Mine
namespace Mine
open PySem PySem.W PyProof.Rows PySem.Calls PySem.SeqAt

section
variable {G : Gl} {Φ : Fm} {d : Nat} {own : Led} {σ : St} {h h' : Heap} {m : Nm} {trk frz : Led} {s : Shared} {E : Value → Shared → Prop} {P : Prg}

theorem ss_rse {x : Str} {np cpos pos : Pos} {args : List Expr} {C : Nat} {rl : St → Out (List AV)} (ok : FmOk G Φ d) (hk : Φ.env.scope.names.lookup x = some .globalImplicit) (hd : (x == ("__debug__" : Str)) = false) (hv : nsIn G.K mainGlobals x = some (some (.ref C))) (hx : excIn G.K C bmVE "ValueError.__new__" = true)
    (hc : noStars args = true) (hl : SExs G Φ args rl) : SSt G Φ (.Raise (some (.Call (.Name x np) args [] cpos)) none pos) (fun _ σ => (rl σ).bind fun vs σ => mkExc P C vs σ) := by
  intro fb own σ s m trk frz Q E r hfb p
  obtain ⟨tl, N, nm, q, bs, hdct, sn, sub, ab, col, dd, k0, k1, k2, k3, k5, mN, hC, hN, hni, T⟩ := (own_of_in ok.X (topRead_of ok.T) hv hx).obj
  refine wpAny_Raise_call_subT (C := C) (nm := nm) (q := q) (N := N) (bs := bs) (bm := tl) (hdct := hdct) (sn := sn) (sub := sub) (ab := ab) (col := col) (dd := dd) (k0 := k0) (k1 := k1) (k2 := k2) (k3 := k3) (k5 := k5)
    PySem.F.excBase_ValueError (mN := mN) (T.hasType PySem.F.excBase_ValueError.hasBase) (by exact ok.hd) (nostar hc _ _) hni (name_G ok r hk hd hv ⟨rfl, args_of hc (hl cpos own σ s m trk frz _ E r (p.bind (fun vs σ₁ vs' h₁ tk₁ trk₁ frz₁ _ r₁ e₁ f₁ v₁ p₁ => ?_) hfb))⟩)
  unfold mkExc at p₁
  cases hP : lookN C P.exs with
  | none => rw [hP] at p₁; exact p₁.elim
  | some ns =>
    rw [hP] at p₁
    cases ns with
    | cons _ _ => exact p₁.elim
    | nil =>
      dsimp only at p₁
      cases hb : okLen vs.length with
      | false => rw [hb] at p₁; exact p₁.elim
      | true =>
        rw [hb] at p₁
        have hb := okLen_le hb
        have hlen := v₁.length
        exact ⟨rfl, by show vs'.length ≤ _; rw [sizeLine_eq]; omega, r₁.F.keep _ _ hC, hN.keeps r₁.F.keep, T.keeps r₁.F.keep, fun h' e hm => p₁ e h' tk₁ m trk₁ frz₁ (XCore.made ok r₁ hm) (List.take_prefix _ _) fun _ q => q⟩

theorem hval_ok {A : Around} {x : Exn} {e : Expr} {a : Ex} {v : PV} (hc : ckHv none e a = true) (hv : hval x none a = some v) (s : Shared) : ∃ v' tk, PRel G.an G.hb frz v v' ∧ ∀ (Q : Value → Shared → Prop) E, Q v' { s with toks := tk } → wpAny (model G.prog G.w) A (eval e Φ.env) Q E s := by
  cases a <;> first | cases hv | skip
  have hc : (vw e).1.on (cst := fun k _ _ => eqC k v) = true := hc
  revert hc
  generalize vw e = w
  obtain ⟨u, hu⟩ := w
  cases u <;> first | exact fun h => ff h | skip
  intro h
  rename_i k _ _
  cases hu
  cases k <;> cases v <;> first | cases h | skip
  · exact ⟨.none, s.toks, .none, fun Q E q => Constant_none q⟩
  · rw [eq_of_beq h]; exact ⟨.bool _, s.toks, .bool _, fun Q E q => Constant_bool q⟩
  · rw [eq_of_beq h]; exact ⟨.int _ s.toks, s.toks + 1, .int _ _, fun Q E q => wpAny_Constant_int q⟩
  · rw [eq_of_beq h]; exact ⟨.str _ s.toks, s.toks + 1, .str _ _, fun Q E q => wpAny_Constant_str q⟩
theorem ckHv_swap {e : Expr} {a : Ex} (hc : ckHv none e a = true) : noSwap e = true := by
  cases a <;> first | cases hc | skip
  have hc : (vw e).1.on (cst := fun k _ _ => eqC k _) = true := hc
  unfold noSwap
  revert hc
  generalize (vw e).1 = u
  cases u <;> first | exact fun h => ff h | exact fun _ => rfl

theorem hdl_ok {A : Around} {x : Exn} {fb : Nat} {E' : Value → Shared → Prop} {Q : Flow → Shared → Prop} (ok : FmOk G Φ d) (hl : fb ≤ trk.length) : ∀ (hx : Sx) (hs : List Stmt), ckHs (Φ.cc G) none hs hx = true → ∀ (σ : St) (s : Shared) (m : Nm), Re G Φ own σ s.heap m trk frz → PostS G Φ own fb trk frz s (hdlS x none fb hx σ) Q E → wpAny (model G.prog G.w) A (execs hs Φ.env) Q E' s := by
  intro hx
  induction hx with
  | nil =>
    intro hs hc σ s m r p
    cases hs with
    | cons _ _ => exact ff hc
    | nil => exact wpAny_execs_nil (PostS.trimmed (E := E) (tk := s.toks) p r)
  | cons a rest _ ih =>
    intro hs hc σ s m r p
    cases hs with
    | nil => exact ff hc
    | cons st hs =>
      unfold ckHs at hc
      dsimp only at hc
      have p : PostS G Φ own fb trk frz s (match asgOf a with | none => .stuck | some q => (match hval x none q.2 with | some v => hdlS x none fb rest (setLo q.1 (.p v) σ) | none => .stuck)) Q E := p
      cases ha : asgOf a with
      | none => rw [ha] at hc; exact ff hc
      | some q =>
        rw [ha] at hc p
        dsimp only at hc p
        obtain ⟨h1, h2⟩ := and2 hc
        cases hv : hval x none q.2 with
        | none => rw [hv] at p; exact p.elim
        | some v =>
          rw [hv] at p
          dsimp only at p
          revert h1
          generalize vs st = w
          obtain ⟨u, hu⟩ := w
          cases u <;> first | exact fun h => ff h | skip
          intro h1
          cases hu
          obtain ⟨hw, he⟩ := and2 h1
          obtain ⟨v', tk, hr, hq⟩ := hval_ok (G := G) (Φ := Φ) (A := A) (frz := frz) he hv s
          refine wpAny_execs_cons (wpAny_Assign_Name (hq _ _ ?_) (noSwap_eq (ckHv_swap he) _ _ _))
          exact s_store ok hw (s := { s with toks := tk }) r (.p hr) fun h' tk' m' r₂ => ih hs h2 _ _ m' r₂ (PostS.later (h₁ := h') (tk₁ := tk') p (List.take_prefix _ _) (fun _ q => q) hl)
  | _ => intro hs hc; unfold ckHs at hc; exact ff hc

theorem ss_try {x : Str} {np hp pos : Pos} {b : List Stmt} {b₀ : Stmt} {hs : List Stmt} {C : Nat} {hx : Sx} {rb : Nat → St → Out Fl} (ok : FmOk G Φ d) (ht : Φ.top = true) (hcm : Φ.cm = false) (hk : Φ.env.scope.names.lookup x = some .globalImplicit) (hd : (x == ("__debug__" : Str)) = false) (hv : nsIn G.K mainGlobals x = some (some (.ref C))) (hq : ktsIn G.K C "BaseException" = true)
    (hb : SSts G Φ b rb) (hh : ckHs (Φ.cc G) none (b₀ :: hs) hx = true) : SSt G Φ (.Try b [.ExceptHandler (some (.Name x np)) none (b₀ :: hs) hp] [] [] pos) (fun fb σ => tryStep fb (rb fb σ) C none hx) := by
  intro fb own σ s m trk frz Q E r hl p
  refine wpAny_Try_except (hb fb own σ s m trk frz _ _ r hl ?_)
  dsimp only at p
  revert p
  cases rb fb σ with
  | stuck => exact fun p => p
  | ok f τ =>
    intro p f' h' tk' m' trk' frz' r' e' g' v'
    cases v' with
    | next => exact wpAny_execs_nil (p .next h' tk' m' trk' frz' r' e' g' .next)
    | brk => exact p .brk h' tk' m' trk' frz' r' e' g' .brk
    | cont => exact p .cont h' tk' m' trk' frz' r' e' g' .cont
    | ret v => exact p _ h' tk' m' trk' frz' r' e' g' (.ret v)
  | exc xx τ =>
    intro p
    have p : PostS G Φ own fb trk frz s (match Nat.beq xx.C C with | true => hdlS xx none fb hx τ | false => .stuck) Q E := p
    cases hC : Nat.beq xx.C C with
    | false => rw [hC] at p; exact p.elim
    | true =>
      rw [hC] at p
      have hC := Nat.eq_of_beq_eq_true hC
      rintro e h' tk' m' trk' frz' ⟨hr, B, dct, r', X, fl⟩ e' g'
      have he := (ok.fe hcm).1
      have hA : Φ.A.frames = some (Φ.fenv :: Φ.outer) := Around.frames_deeper ok.B.stack
      rw [he]
      refine note_x (s := { s with heap := h', toks := tk' }) hA rfl X.st X.ff X.ob fun h₁ k1 k2 k3 k4 => ?_
      refine trd_none k1 k2 k3 fun h₂ j1 j2 j3 j4 => ?_
      have up₂ : hr.UpToSlots h₂ := (X.up.trans k4).trans j4
      have r₂ := r'.land ok ht X j1 up₂
      obtain ⟨nm, qn, N, bs, bm, hdct, sn, sub, ab, col, dd, c0, c1, c2, c3, c5, newId, hCo, hbase, _⟩ := kts_cls ok.X hq
      obtain ⟨ob, hob, hobc, _⟩ := j3.there
      rw [hC] at hobc
      rw [← he]
      refine wpAny_handleBy_cons (codeAny_handlers_test (name_G (s := { s with heap := h₂, toks := tk' }) ok r₂ hk hd hv ?_)) (by intro q; cases q)
      refine wpAny_excMatches_sub_self (r₂.F.keep _ _ hCo) hob hobc hbase (codeAny_handlers_suite ?_)
      refine trd_none j1 j2 j3 fun h₃ i1 i2 i3 i4 => ?_
      have r₃ := r'.land ok ht X i1 (up₂.trans i4)
      exact hdl_ok ok (len_keep e' hl) hx (b₀ :: hs) hh τ { s with heap := h₃, toks := tk' } m' r₃ (PostS.later (h₁ := h₃) (tk₁ := tk') p e' g' hl)
end
end Mine
namespace Mine
open PySem PySem.W PyProof.Rows PySem.Calls PySem.SeqAt
theorem slot_wd_get : Slot "wrapper_descriptor" "__get__" "wrapper_descriptor.__get__" := .of (owner := "wrapper_descriptor") (n := "__get__") (by rw [typeLookup_type, builtinLookup_eq_fast]; kernel_rfl) (by decide +kernel) (by decide +kernel) (by decide +kernel)
  (by first | exact .inl (by decide +kernel) | exact .inr (by decide +kernel)) (by rw [isSubtype_type]; kernel_rfl)
theorem entry_wd_get : entryFor table "wrapper_descriptor.__get__" = some Builtin.«wrapper_descriptor.__get__» := entryFor_of_tree (by kernel_rfl)
theorem args_wd_get (a b c : Value) : argsOk "wrapper_descriptor.__get__" ⟨[a, b, c], []⟩ := by unfold argsOk; kernel_rfl
abbrev wrapObj (x : Addr) : Obj := { cls := .type "method-wrapper", dict := none, data := .fields #[.builtin "ValueError.__init__", .ref x], slots := #[] }
section
variable {prog : Program} {w : World} {M : Model} {A : Around} {E : Value → Shared → Prop} {h : Heap} {g : Array GenState} {d : Drawn} {t : Nat} {os : OsState}
theorem type_vi : (⟨h, g, d, t, os⟩ : Shared).TypeIs (.builtin "ValueError.__init__") "wrapper_descriptor" := by
  show typeOf _ = _
  kernel_rfl
set_option maxHeartbeats 2000000 in
theorem sup_ga {so D x C : Addr} {l₀ l : List Value} {K : Frag} {tk : Tok} {Q : Fin → Shared → Prop} {ox : Obj}
    (hso : h.get? so = some { cls := .type "super", dict := none, data := .fields #[.ref D, .ref x, .ref C], slots := #[] }) (hno : Looks (model prog w) h (opaqueClassAbove (.ref C)) none)
    (hC : Looks (model prog w) h (mroOf (.ref C)) l₀) (hl : (l₀.dropWhile (· != .ref D)).drop 1 = l) (X : K.In h)
    (hf : alongIn K "__init__" l = some (some (.builtin "ValueError.__init__"))) (hxC : x ≠ C) (hx : h.get? x = some ox) (hxc : ox.cls = .ref C) (hi : Looks (model prog w) h (isSubtype (.ref C) (.type "ValueError")) true)
    (hq : Q (.done (.ret (.ref h.objs.size))) ⟨h.push (wrapObj x), g, d, t, os⟩) :
    wpAny (model prog w) A (Builtin.«super.__getattribute__» ⟨[.ref so, .str "__init__" tk], []⟩) Q E ⟨h, g, d, t, os⟩ := by
  have hlk := slot_wd_get.lookup
  have hown : ".".intercalate ("ValueError.__init__".cutAt '.').dropLast = "ValueError" := by decide +kernel
  have hi' : Looks (model prog w) h (isSubtype (.ref C) (.type (".".intercalate ("ValueError.__init__".cutAt '.').dropLast))) true := by rw [hown]; exact hi
  have hne : (Value.ref x == Value.ref C) = false := by simp [hxC]
  have hTf : (⟨h, g, d, t, os⟩ : Shared).TypeIs (.builtin "ValueError.__init__") "wrapper_descriptor" := type_vi
  have hdt : ({ cls := .type "super", dict := none, data := .fields #[.ref D, .ref x, .ref C], slots := #[] } : Obj).data = .fields #[.ref D, .ref x, .ref C] := rfl
  have f0 : (#[.ref D, .ref x, .ref C] : Array Value)[0]? = some (.ref D) := rfl
  have f1 : (#[.ref D, .ref x, .ref C] : Array Value)[1]? = some (.ref x) := rfl
  have f2 : (#[.ref D, .ref x, .ref C] : Array Value)[2]? = some (.ref C) := rfl
  unfold Builtin.«super.__getattribute__»
  repeat (first
    | (with_reducible refine wpAny_field hso hdt f0 ?_) | (with_reducible refine wpAny_field hso hdt f1 ?_) | (with_reducible refine wpAny_field hso hdt f2 ?_)
    | (with_reducible refine ks_wpAny_notOpaque hno ?_)
    | (with_reducible refine Looks.at hC ?_; rw [hl])
    | (with_reducible refine wpAny_loadPart_at hx ?_; rw [hxc])
    | (with_reducible refine Looks.at hi' ?_)
    | (refine ks_forIn_along X (fun _ _ => rfl) rfl ?_ hf)
    | (with_reducible refine wpAny_typeOf hTf ?_)
    | (with_reducible refine wpAny_call_entry slot_wd_get hTf entry_wd_get ?_ (args_wd_get _ _ _))
    | (with_reducible refine ⟨_, rfl, ?_⟩)
    | (simp only [hne, Bool.or_false, Bool.false_eq_true, if_false])
    | wp_step
    | dsimp only)
  all_goals exact hq
theorem sup_getm {so D x C : Addr} {l₀ l : List Value} {K : Frag} {pl : Sem Bool} {Q : Value × List Value → Shared → Prop} {ox : Obj}
    (hso : h.get? so = some { cls := .type "super", dict := none, data := .fields #[.ref D, .ref x, .ref C], slots := #[] }) (hno : Looks (model prog w) h (opaqueClassAbove (.ref C)) none)
    (hC : Looks (model prog w) h (mroOf (.ref C)) l₀) (hl : (l₀.dropWhile (· != .ref D)).drop 1 = l) (X : K.In h)
    (hf : alongIn K "__init__" l = some (some (.builtin "ValueError.__init__"))) (hxC : x ≠ C) (hx : h.get? x = some ox) (hxc : ox.cls = .ref C) (hi : Looks (model prog w) h (isSubtype (.ref C) (.type "ValueError")) true)
    (hq : Q (.ref h.objs.size, []) ⟨h.push (wrapObj x), g, d, t + 1, os⟩) :
    wpAny (model prog w) A (getMethod (.ref so) "__init__" pl) Q E ⟨h, g, d, t, os⟩ := by
  have hlk := PySem.F.ks_slot_super_ga.lookup
  have hT : ∀ t', (⟨h, g, d, t', os⟩ : Shared).TypeIs (.ref so) "super" := fun _ => ⟨_, hso, rfl⟩
  unfold getMethod
  refine wpAny_bind (wpAny_specialOf (hT _) hlk ?_)
  show wpAny _ _ (if (Manifest.canonical "super.__getattribute__" != "object.__getattribute__") = true then _ else _) _ _ _
  rw [if_pos PySem.F.ks_canon_super_ga]
  unfold getAttr getAttrBy
  refine wpAny_bind (wpAny_bind (wpAny_mkText (wpAny_holding (wpAny_bind (wpAny_typeOf (hT _) (wpAny_bind (wpAny_of_eq hlk ?_)))))))
  show wpAny _ _ (getAttrByItsOwn (.ref so) (.str "__init__" t) (.type "super") (.builtin "super.__getattribute__") true false) _ _ _
  unfold getAttrByItsOwn hookBefore callGetattribute boundAndCalled
  refine wpAny_bind (wpAny_of_eq (show (if onTheHeap (.type "super") then typeLookup (.type "super") "__getattr__" else pure none) = pure none from rfl) ?_)
  refine wpAny_bind (wpAny_attempt (wpAny_holding ?_))
  show wpAny _ _ (bindSpecial (.builtin "super.__getattribute__") (.ref so) >>= _) _ _ _
  refine wpAny_bind (wpAny_of_eq (PySem.F.ks_slot_super_ga.bind _) ?_)
  refine wpAny_mono (Q := fun v s' => v = .ref h.objs.size ∧ s' = ⟨h.push (wrapObj x), g, d, t + 1, os⟩) (E := fun _ _ => False)
    (wpAny_call_entry PySem.F.ks_slot_super_ga (hT _) PySem.F.ks_entry_super_ga (sup_ga hso hno hC hl X hf hxC hx hxc hi ⟨_, rfl, rfl, rfl⟩) (PySem.F.ks_gaArgs_super _ _)) (fun v s' hv => ?_) fun _ _ z => z.elim
  obtain ⟨rfl, rfl⟩ := hv
  exact wpAny_pure (wpAny_pure hq)
variable {nm q : Str} {C N : Addr} {bs bm : List Value} {hdct : Bool} {sn : List Str} {sub : List Value} {ab : Bool} {col : Option Bool} {dd : Option Addr} {k0 k1 k2 k3 k5 : Option Value} {newId : String}
theorem check_vi {e : Addr} {oe : Obj} {v : Value} {Q : Unit → Shared → Prop} (hC : h.get? C = some (excClassObj nm q C N bs bm hdct sn sub ab col dd k0 k1 k2 k3 k5 newId)) (he : h.get? e = some oe) (hcls : oe.cls = .ref C) (hq : Q () ⟨h, g, d, t, os⟩) : wpAny M A (checkBoundCall "ValueError.__init__" ⟨[.ref e, v], []⟩) Q E ⟨h, g, d, t, os⟩ := by
  have FE := PySem.F.excBase_ValueError
  have hshort := FE.noStar
  simp only [checkBoundCall, FE.initKind, FE.initRow]
  rw [if_pos (by decide)]
  repeat (first | (with_reducible refine wpAny_loadPart_at he ?_; rw [hcls]) | with_reducible refine wpAny_loadPart_at hC ?_ | wp_step)
  exact hq
theorem wrap_callWith {pos : Pos} {u e : Addr} {first : List Value} {args : List (Bool × Sem Value)} {Q : Value → Shared → Prop} {s : Shared} (hplain : args.any (·.1) = false)
    (h : wpAny M A (evalArgs (.ref u) true args []) (fun x s₁ => s₁.heap.get? u = some (wrapObj e) ∧ wpAny M A (call (.ref u) (first ++ x.pos) x.kw) Q E s₁) E s) : wpAny M A (callWith pos (.ref u) first args []) Q E s := by
  unfold callWith
  refine wpAny_bind (wpAny_holding (wpAny_mono h (fun x s₁ h₁ => wpAny_bind (wpAny_standAt ?_)) fun _ _ x => x))
  obtain ⟨ho, hcall⟩ := h₁
  simp only [hplain, List.any_nil, Bool.or_false]
  refine wpAny_bind (m := keeperOf (.ref u)) ?_
  unfold keeperOf
  refine wpAny_bind (wpAny_load ho ?_)
  simp only [show (Value.type "method-wrapper" != Value.type "method") = true by decide, show (Value.type "method-wrapper" == Value.type "builtin_function_or_method" || Value.type "method-wrapper" == Value.type "method-wrapper") = true by decide, if_true]
  refine wpAny_pure ?_
  exact wpAny_bind (wpAny_mono hcall (fun r s₂ hr => wpAny_bind (wpAny_holding (wpAny_point (wpAny_pure hr)))) fun _ _ x => x)
theorem wrap_call {b e : Addr} {oe : Obj} {vs : Array Value} {v : Value} {t0 : Addr} {Q : Value → Shared → Prop} (hC : h.get? C = some (excClassObj nm q C N bs bm hdct sn sub ab col dd k0 k1 k2 k3 k5 newId)) (hb : h.get? b = some (wrapObj e)) (he : h.get? e = some oe) (hcls : oe.cls = .ref C) (hd : oe.data = .fields vs) (h0 : vs[0]? = some (.ref t0))
    (hq : Q .none ⟨(h.push { cls := .type "tuple", data := .seq #[v] }).update e (Obj.mapFields (·.setIfInBounds 0 (.ref h.objs.size))), g, d, t, os⟩) : wpAny (model prog w) A (call (.ref b) [v]) Q E ⟨h, g, d, t, os⟩ := by
  refine wpAny_call (codeAny_of_tree ?_)
  show wpAny _ A.in1 (callAny (.ref b) ⟨[v], []⟩) _ _ _
  simp only [callAny]
  refine wpAny_bind (wpAny_load hb ?_)
  simp only [show (Value.type "method-wrapper" == Value.type "method" || Value.type "method-wrapper" == Value.type "builtin_function_or_method" || Value.type "method-wrapper" == Value.type "method-wrapper") = true by decide, if_true]
  refine wpAny_bind (check_vi hC he hcls ?_)
  refine wpAny_bind (wpAny_pure (wpAny_pure ?_))
  refine ⟨Code.quiet_builtin _ (by decide +kernel), codeAny_builtin PySem.F.excBase_ValueError.initEntry ?_⟩
  have he₁ := Heap.get?_push_of_some (h := h) { cls := .type "tuple", data := .seq #[v] } he
  unfold Builtin.«BaseException.__init__»
  dsimp only
  rw [if_neg (by simp)]
  unfold newTuple Builtin.BaseException.bexcPut
  have hsz : 0 < vs.size := (Array.getElem?_eq_some_iff.mp h0).1
  refine wpAny_bind (wpAny_newObj_type (wpAny_bind (wpAny_bind (wpAny_field he₁ hd h0 (wpAny_bind (wpAny_setField he₁ hd hsz ?_))))) (by show (1 : Nat) ≤ sizeLine; rw [sizeLine_eq]; omega))
  exact wpAny_letGo (wpAny_pure hq)
end
end Mine
namespace Mine
open PySem PySem.W PyProof.Rows PySem.Calls PySem.SeqAt PySem.Builtin PySem.Builtin.ObjectAttr
section
variable {prog : Program} {w : World} {M : Model} {A : Around} {E : Value → Shared → Prop} {h : Heap} {g : Array GenState} {d : Drawn} {t : Nat} {os : OsState}
variable {nm q : Str} {C N x : Addr} {bs : List Value} {sn : List Str} {sub : List Value} {ab : Bool} {col : Option Bool} {dd : Option Addr} {k0 k1 k2 k3 k5 : Option Value} {newId : String}
  {mN mA : Str → Option Value} {name : Str} {v : Value}
theorem xl_entry {tk : Tok} {Q : Fin → Shared → Prop} (hC : h.get? C = some (excClassObj nm q C N bs bmVE true sn sub ab col dd k0 k1 k2 k3 k5 newId)) (hn : h.Ns N mN) (hna : mN name = none)
    (hB : typeLookup (.type "ValueError") name = pure none) (I : h.Inst x C mA) (hv : mA name = some v) (hq : Q (.done (.ret v)) ⟨h, g, d, t, os⟩) :
    wpAny (model prog w) A (Builtin.«object.__getattribute__» ⟨[.ref x, .str name tk], []⟩) Q E ⟨h, g, d, t, os⟩ := by
  obtain ⟨o, hx, hc, hnc, hd⟩ := I
  rcases hd with ⟨_, hmA⟩ | ⟨dx, hdx, hne, hns⟩
  · rw [hmA name] at hv; cases hv
  have hmro : mroOf (.type "ValueError") = pure bmVE := PySem.F.excBase_ValueError.mroIs
  unfold Builtin.«object.__getattribute__»
  repeat (first | (with_reducible refine wpAny_loadPart_at hx ?_; rw [hc]) | (with_reducible refine wpAny_typeLookup_exc hC hn hmro hB ?_; rw [hna]) | wp_step)
  split
  · rename_i c hcd
    exact absurd hcd (hnc c)
  unfold instanceDict
  repeat (first | (with_reducible refine wpAny_loadPart_at hx ?_; rw [hc]) | with_reducible refine wpAny_loadPart_at hC ?_ | wp_step)
  rw [hdx]
  repeat (first | (with_reducible refine wpAny_nsGet hns.ns ?_; rw [hv]) | wp_step)
  exact hq
theorem xl_attr {expr : Bool} {Q : Value → Shared → Prop} (hC : h.get? C = some (excClassObj nm q C N bs bmVE true sn sub ab col dd k0 k1 k2 k3 k5 newId)) (hn : h.Ns N mN) (hng : mN "__getattribute__" = none) (hnh : mN "__getattr__" = none) (hna : mN name = none)
    (hB : typeLookup (.type "ValueError") name = pure none) (I : h.Inst x C mA) (hv : mA name = some v) (hh : handedOut v = pure v) (hq : Q v ⟨h, g, d, t + 1, os⟩) :
    wpAny (model prog w) A (getAttr (.ref x) name expr) Q E ⟨h, g, d, t, os⟩ := by
  obtain ⟨o, hx, hc, _⟩ := id I
  have FB := PySem.F.attrBase_ValueError
  have hmro : mroOf (.type "ValueError") = pure bmVE := PySem.F.excBase_ValueError.mroIs
  have f3 := FB.ga.bind (.ref x)
  have hx0 : (expr && onTheHeap (Value.builtin "BaseException.__getattribute__")) = false := by cases expr <;> rfl
  have hx2 : (Value.builtin "BaseException.__getattribute__" == Value.builtin "object.__getattribute__") = false := by decide +kernel
  have hx1 : (onTheHeap (Value.ref C) && Value.builtin "BaseException.__getattribute__" == Value.builtin "object.__getattribute__") = false := by rw [hx2]; rfl
  unfold getAttr
  repeat (any_goals (first | assumption | (with_reducible refine wpAny_loadPart_at hx ?_; rw [hc]) | (with_reducible refine wpAny_typeLookup_exc hC hn hmro FB.ga.lookup ?_; rw [hng]) | (with_reducible refine wpAny_typeLookup_exc hC hn hmro FB.noGetattr ?_; rw [hnh]) | wp_step))
  refine codeAny_call_builtin FB.ga.plain PySem.F.entry_bexc_ga (wpAny_check_ga_own FB hC OwnTailQ.base hx hc (xl_entry hC hn hna hB I hv ?_))
  repeat (any_goals (first | assumption | wp_step))
/-- the first attribute of an exception: its dict is made -/
theorem xs_entry {B sa owner : String} {bm : List Value} (SF : StoreFacts B bm sa owner) {o : Obj} {tk : Tok} {Q : Fin → Shared → Prop} (hC : h.get? C = some (excClassObj nm q C N bs bm true sn sub ab col dd k0 k1 k2 k3 k5 newId)) (hn : h.Ns N mN) (hna : mN name = none) (hB : typeLookup (.type B) name = pure none)
    (hx : h.get? x = some o) (hc : o.cls = .ref C) (hnc : ∀ c, o.data ≠ .cls c) (hdn : o.dict = none)
    (hq : ∀ h' tk', h'.get? x = some { o with dict := some h.objs.size } → h'.Ns1 h.objs.size (fun y => if y = name then some v else none) → (∀ b ob, b ≠ x → h.get? b = some ob → h'.get? b = some ob) → Q (.done (.ret .none)) ⟨h', g, d, tk', os⟩) :
    wpAny (model prog w) A (Builtin.«object.__setattr__» ⟨[.ref x, .str name tk, v], []⟩) Q E ⟨h, g, d, t, os⟩ := by
  have hpass := SF.passes (.ref x)
  have hmro : mroOf (.type B) = pure bm := SF.mro
  have hp2 : refuseLoop (.ref x) "__setattr__" bm = pure () := hpass
  unfold Builtin.«object.__setattr__»
  repeat (first | rw [refuse_eq] | (rw [refuseLoop_ref, hp2]) | (with_reducible refine wpAny_loadPart_at hx ?_; rw [hc]) | with_reducible refine wpAny_mroOf_exc hC ?_ | (with_reducible refine wpAny_typeLookup_exc hC hn hmro hB ?_; rw [hna]) | wp_step)
  rw [hdn, if_neg (by simp [typeHasDict])]
  split
  · rename_i hcd
    cases hcd
  split
  · rename_i c hcd
    exact absurd hcd (hnc c)
  · have hx₁ : (h.push { cls := .type "dict", data := .dict #[] }).get? x = some o := Heap.get?_push_of_some _ hx
    have hxs : x ≠ h.objs.size := Nat.ne_of_lt (Heap.lt_size hx)
    refine wpAny_bind (wpAny_alloc' (wpAny_bind (wpAny_update' hx₁ (wpAny_pure ?_))))
    have hgd : ((h.push { cls := .type "dict", data := .dict #[] }).update x fun o => { cls := o.cls, dict := some h.objs.size, data := o.data, slots := o.slots }).get? h.objs.size = some { cls := .type "dict", data := .dict #[] } :=
      (Heap.get?_update_ne _ _ _ _ hxs.symm).trans (Heap.get?_push_at rfl rfl)
    have hnd : ((h.push { cls := .type "dict", data := .dict #[] }).update x fun o => { cls := o.cls, dict := some h.objs.size, data := o.data, slots := o.slots }).Ns h.objs.size (fun _ => none) :=
      ⟨_, #[], _, hgd, rfl, fun e he => absurd he (by simp), fun _ => rfl⟩
    show wpAny _ _ (storeInDict h.objs.size (.str name tk) name v) _ _ _
    unfold storeInDict newKeyGuard
    refine wpAny_bind (wpAny_pure (wpAny_bind (wpAny_nsSet1 (Heap.Ns1.of_empty hnd) fun h' hn' hs => ?_)))
    obtain ⟨oD, esD, epD, hoD, hdD, hcD⟩ := hn'.count (Within.cons name v Within.nil)
    refine wpAny_bind (wpAny_lookBehind hoD (by rw [hdD]; exact pastItsLine_dict (Nat.le_trans hcD (by rw [List.length_cons, List.length_nil, sizeLine_eq]; omega))) ?_)
    wp_walk
    refine hq h' _ ?_ hn' fun b ob hbx hb => (hs.2 b (Nat.ne_of_lt (Heap.lt_size hb))).trans ((Heap.get?_update_ne _ _ _ _ hbx).trans (Heap.get?_push_of_some _ hb))
    refine (hs.2 x hxs).trans (Heap.get?_update_self _ hx₁ ?_)
    have hfr := (Heap.get?_some_iff.mp hx).2
    obtain ⟨oc, od, odt, osl⟩ := o
    cases odt <;> first | rfl | exact hfr
theorem xs_call {B sa owner : String} {bm : List Value} (SF : StoreFacts B bm sa owner) {o : Obj} {tk : Tok} {R : Result → Shared → Prop} (hC : h.get? C = some (excClassObj nm q C N bs bm true sn sub ab col dd k0 k1 k2 k3 k5 newId)) (hn : h.Ns N mN) (hna : mN name = none) (hB : typeLookup (.type B) name = pure none)
    (hx : h.get? x = some o) (hc : o.cls = .ref C) (hnc : ∀ c, o.data ≠ .cls c) (hdn : o.dict = none)
    (hq : ∀ h' tk', h'.get? x = some { o with dict := some h.objs.size } → h'.Ns1 h.objs.size (fun y => if y = name then some v else none) → (∀ b ob, b ≠ x → h.get? b = some ob → h'.get? b = some ob) → R (.ok (.ret .none)) ⟨h', g, d, tk', os⟩) :
    codeAny (model prog w) A (.call (.builtin sa) ⟨[.ref x, .str name tk, v], []⟩) R ⟨h, g, d, t, os⟩ := by
  exact codeAny_call_builtin SF.slot.plain SF.entry (wpAny_check_sa SF hC hx hc (xs_entry SF hC hn hna hB hx hc hnc hdn hq))
set_option maxHeartbeats 2000000 in
theorem xs_attr {o : Obj} {Q : Unit → Shared → Prop} (hC : h.get? C = some (excClassObj nm q C N bs bmVE true sn sub ab col dd k0 k1 k2 k3 k5 newId)) (hn : h.Ns N mN) (hns : mN "__setattr__" = none) (hna : mN name = none) (hB : typeLookup (.type "ValueError") name = pure none)
    (hx : h.get? x = some o) (hc : o.cls = .ref C) (hnc : ∀ c, o.data ≠ .cls c) (hdn : o.dict = none)
    (hq : ∀ h' tk', h'.get? x = some { o with dict := some h.objs.size } → h'.Ns1 h.objs.size (fun y => if y = name then some v else none) → (∀ b ob, b ≠ x → h.get? b = some ob → h'.get? b = some ob) → Q () ⟨h', g, d, tk', os⟩) :
    wpAny (model prog w) A (setAttr (.ref x) name v) Q E ⟨h, g, d, t, os⟩ := by
  have SF : StoreFacts "ValueError" bmVE "object.__setattr__" "object" := PySem.F.store_ValueError
  have hmro : mroOf (.type "ValueError") = pure bmVE := SF.mro
  have f3 := SF.slot.bind (.ref x)
  unfold setAttr callSpecial? specialOf
  repeat (any_goals (first | assumption | (with_reducible refine wpAny_loadPart_at hx ?_; rw [hc]) | (with_reducible refine wpAny_typeLookup_exc hC hn hmro SF.slot.lookup ?_; rw [hns]) | wp_step))
  refine xs_call SF hC hn hna hB hx hc hnc hdn (fun h' tk' a1 a2 a3 => ?_)
  repeat (any_goals (first | assumption | wp_step))
  exact hq h' tk' a1 a2 a3
end
end Mine
namespace Mine
open PySem PySem.W PyProof.Rows PySem.Calls PySem.SeqAt
abbrev excObj (C t : Addr) (dct : Option Addr) (sl : Array (Option Value)) : Obj := { cls := .ref C, dict := dct, data := .fields #[.ref t, .none, .none, .none, .bool false, .none], slots := sl }
section
variable {prog : Program} {w : World} {M : Model} {A : Around} {E : Value → Shared → Prop} {s : Shared} {env : Env}
variable {nm q : Str} {C N : Addr} {bs bm : List Value} {hdct : Bool} {sn : List Str} {sub : List Value} {ab : Bool} {col : Option Bool} {dd : Option Addr} {k0 k1 k2 k3 k5 : Option Value} {newId : String}
theorem raise_obj {x : Sem Value} {Q : Flow → Shared → Prop} (hbase : bm.contains (.type "BaseException") = true) (hh : A.handled = none)
    (h : wpAny M A x (fun v s₁ => ∃ e t dct sl, v = .ref e ∧ s₁.heap.get? C = some (excClassObj nm q C N bs bm hdct sn sub ab col dd k0 k1 k2 k3 k5 newId) ∧ s₁.heap.get? e = some (excObj C t dct sl) ∧ E (.ref e) s₁) E s) :
    wpAny M A (raiseStmt env (some x) none) Q E s := by
  have hcB : (Value.ref C :: bm).contains (.type "BaseException") = true := by rw [List.contains_cons, hbase, Bool.or_true]
  unfold raiseStmt
  refine wpAny_bind (wpAny_mono h (fun v s₁ h₁ => ?_) fun _ _ x => x)
  obtain ⟨e, t, dct, sl, rfl, hC, he, hE⟩ := h₁
  obtain ⟨hp, g, d, tk, os⟩ := s₁
  repeat (first | with_reducible refine wpAny_loadPart_at he ?_ | with_reducible refine wpAny_loadPart_at hC ?_ | (with_reducible refine wpAny_isSubtype_exc hC ?_; rw [hcB]) | wp_step)
  exact wpAny_raiseNew_none hh hE
theorem raise_fault {x : Str} {np cpos pos : Pos} {args : List Expr} {Q : Flow → Shared → Prop} (hbase : bm.contains (.type "BaseException") = true) (hh : A.handled = none) (hplain : (backTo cpos (starEach args env)).any (·.1) = false)
    (h : wpAny (model prog w) A (eval (.Name x np) env) (fun f s₁ => f = .ref C ∧ wpAny (model prog w) A (evalArgs (.ref C) true (backTo cpos (starEach args env)) [])
      (fun a s₂ => a.kw = [] ∧ s₂.heap.get? C = some (excClassObj nm q C N bs bm hdct sn sub ab col dd k0 k1 k2 k3 k5 newId) ∧
        wpAny (model prog w) A (call (.ref C) a.pos) (fun v s₃ => ∃ e t dct sl, v = .ref e ∧ s₃.heap.get? C = some (excClassObj nm q C N bs bm hdct sn sub ab col dd k0 k1 k2 k3 k5 newId) ∧ s₃.heap.get? e = some (excObj C t dct sl) ∧ E (.ref e) s₃) E s₂) E s₁) E s) :
    wpAny (model prog w) A (exec (.Raise (some (.Call (.Name x np) args [] cpos)) none pos) env) Q E s := by
  rw [arm_exec_Raise]
  simp only [evalOpt, Option.map]
  refine wpAny_bind (wpAny_standAt (raise_obj (C := C) (nm := nm) (q := q) (N := N) (bs := bs) (bm := bm) (hdct := hdct) (sn := sn) (sub := sub) (ab := ab) (col := col) (dd := dd) (k0 := k0) (k1 := k1) (k2 := k2) (k3 := k3) (k5 := k5) (newId := newId) hbase hh ?_))
  refine wpAny_bind (wpAny_mono (wpAny_Call_ofName (wpAny_mono h (fun f s₁ h₁ => ?_) fun _ _ x => x)) (fun v s₃ h₃ => wpAny_bind (wpAny_standAt (wpAny_pure h₃))) fun _ _ x => x)
  obtain ⟨rfl, h₁⟩ := h₁
  unfold callWith
  refine wpAny_bind (wpAny_holding (wpAny_mono h₁ (fun a s₂ h₂ => wpAny_bind (wpAny_standAt ?_)) fun _ _ x => x))
  obtain ⟨apos, akw⟩ := a
  obtain ⟨hkw, hC, h₂⟩ := h₂
  obtain rfl : akw = [] := hkw
  obtain ⟨hp, g, d, tk, os⟩ := s₂
  simp only [hplain]
  refine wpAny_bind (wpAny_keeperOf_exc hC ?_)
  exact wpAny_bind (wpAny_mono h₂ (fun v s₃ h₃ => wpAny_bind (wpAny_holding (wpAny_point (wpAny_pure h₃)))) fun _ _ x => x)
end
end Mine
namespace Mine
open PySem PySem.W PyProof.Rows PySem.Calls PySem.SeqAt
section
variable {G : Gl} {Φ : Fm} {d : Nat}
theorem flt_arg {nm np : Str} {at_ : List Nat} {k : Nat} {q1 q2 q3 q4 q5 q6 q7 : Pos} (ok : FmOk G Φ d) (hc : Φ.cm = false) (h1 : Φ.ns[1]? = some nm) (h2 : Φ.ns[2]? = some np) (l1 : Φ.env.scope.names.lookup nm = some .local) (l2 : Φ.env.scope.names.lookup np = some .local) (d1 : (nm == ("__debug__" : Str)) = false) (d2 : (np == ("__debug__" : Str)) = false)
    (hk : Φ.env.scope.names.lookup ("str" : Str) = some .globalImplicit) (hv : nsIn G.K mainGlobals "str" = some none) :
    SEx G Φ (fltArg nm np at_ k q1 q2 q3 q4 q5 q6 q7) (fun σ => (((locR 1 σ).bind fun x σ => (Out.ok (.p (.str at_)) σ).bind fun y σ => badd x y σ)).bind fun x σ => (((locR 2 σ).bind fun v σ => (Out.ok [] σ).bind fun vs σ => .ok (v :: vs) σ).bind fun vs σ => bfun .str vs σ).bind fun y σ => badd x y σ) :=
  sx_bin (sx_bin (sx_loc ok hc h1 l1 d1) sx_str (sb_add ok)) (sx_bf (v := .type "str") ok hk (by decide) hv (by kernel_rfl) (by decide) (by decide) (by rfl) (sxs_cons rfl (sx_loc ok hc h2 l2 d2) sxs_nil) (sf_of ok (by decide))) (sb_add ok)
theorem okLen_lt {n : Nat} (h : n < 1000000) : okLen n = true := Nat.ble_eq_true_of_le h
theorem dec2_len (n : Nat) : (dec2 n).length ≤ 2 := by
  unfold dec2
  split <;> simp
theorem flt_args {nm np : Str} {at_ l : List Nat} {i : Nat} {k : Nat} {q1 q2 q3 q4 q5 q6 q7 pos : Pos} {own : Led} {σ : St} {s : Shared} {m : Nm} {trk frz : Led} {Q : List Value → Shared → Prop} {E : Value → Shared → Prop} (ok : FmOk G Φ d) (hc : Φ.cm = false) (h1 : Φ.ns[1]? = some nm) (h2 : Φ.ns[2]? = some np) (l1 : Φ.env.scope.names.lookup nm = some .local) (l2 : Φ.env.scope.names.lookup np = some .local) (d1 : (nm == ("__debug__" : Str)) = false) (d2 : (np == ("__debug__" : Str)) = false)
    (hk : Φ.env.scope.names.lookup ("str" : Str) = some .globalImplicit) (hv : nsIn G.K mainGlobals "str" = some none) (r : Re G Φ own σ s.heap m trk frz) (e1 : σ.lo[1]? = some (some (.p (.str l)))) (e2 : σ.lo[2]? = some (some (.p (.int i)))) (hl : l.length < 1000) (hat : at_.length < 1000) (hi : i < 100)
    (hq : ∀ v h' tk' trk' frz', Re G Φ own σ h' m trk' frz' → Q [v] { s with heap := h', toks := tk' }) :
    wpAny (model G.prog G.w) Φ.A (spliced (backTo pos (starEach [fltArg nm np at_ k q1 q2 q3 q4 q5 q6 q7] Φ.env))) Q E s := by
  have a1 : locR 1 σ = .ok (.p (.str l)) σ := by unfold locR; rw [e1]; rfl
  have a2 : locR 2 σ = .ok (.p (.int i)) σ := by unfold locR; rw [e2]; rfl
  have a3 : badd (.p (.str l)) (.p (.str at_)) σ = .ok (.p (.str (l ++ at_))) σ := by
    have h1 : okLen (l.length + at_.length) = true := okLen_lt (by omega)
    have e : badd (.p (.str l)) (.p (.str at_)) σ = (match okLen (l.length + at_.length) with | true => .ok (.p (.str (l ++ at_))) σ | false => .stuck) := rfl
    rw [e, h1]
  have a4 : bfun .str [.p (.int i)] σ = .ok (.p (.str (dec2 i))) σ := by
    have e : ∀ i : Int, bfun .str [.p (.int i)] σ = (match decide (0 ≤ i) && decide (i < 100) with | true => .ok (.p (.str (dec2 i.toNat))) σ | false => .stuck) := fun i => rfl
    rw [e, decide_eq_true (show (0 : Int) ≤ i by omega), decide_eq_true (show (i : Int) < 100 by omega), Int.toNat_natCast]
    rfl
  have a5 : badd (.p (.str (l ++ at_))) (.p (.str (dec2 i))) σ = .ok (.p (.str (l ++ at_ ++ dec2 i))) σ := by
    have h1 : okLen ((l ++ at_).length + (dec2 i).length) = true := okLen_lt (by have := dec2_len i; rw [List.length_append]; omega)
    have e : badd (.p (.str (l ++ at_))) (.p (.str (dec2 i))) σ = (match okLen ((l ++ at_).length + (dec2 i).length) with | true => .ok (.p (.str (l ++ at_ ++ dec2 i))) σ | false => .stuck) := rfl
    rw [e, h1]
  refine (sxs_cons rfl (flt_arg ok hc h1 h2 l1 l2 d1 d2 hk hv) sxs_nil) pos own σ s m trk frz Q E r ?_
  simp only [a1, a2, a3, a4, a5, Out.bind]
  intro vs' h' tk' trk' frz' r' _ _ hvs
  cases hvs with
  | cons hv ht =>
    cases ht
    exact hq _ h' tk' trk' frz' r'
end
end Mine
namespace Mine
open PySem PySem.W PyProof.Rows PySem.Calls PySem.SeqAt
section
variable {prog : Program} {w : World} {A : Around} {E : Value → Shared → Prop} {K : Frag} {D : FltD prog K} {g : Heap} {L e : Addr} {m : Str → Option Value} {news : Led} {s : Shared}
theorem flt_ns (X : K.In g) : g.Ns D.N (g.nsMap D.N) := .of_isNs (isNs_of_in X D.nsOk)
theorem fr_keep {h h' : Heap} (F : Fr g L h m) (hk : ∀ b o, b ≠ e → h.get? b = some o → h'.get? b = some o) (hL : L ≠ e) (hg : g.get? e = none) : Fr g L h' m := by
  obtain ⟨oL, es, ep, hL', r⟩ := F.ns
  exact ⟨⟨oL, es, ep, hk _ _ hL hL', r⟩, fun b o hb => hk b o (fun q => by rw [q, hg] at hb; cases hb) (F.keep b o hb), F.above⟩
theorem flt_ne (X : K.In g) (hg : g.get? e = none) : e ≠ D.C := fun q => by
  have := X _ _ D.cls
  rw [← q, hg] at this; cases this
/-- the first attribute is set on the exception -/
theorem flt_store1 {t : Addr} {v : Value} {name : Str} {Q : Unit → Shared → Prop} (X : K.In g) (hno : nsIn K D.N name = some none) (hB : typeLookup (.type "ValueError") name = pure none)
    (F : Fr g L s.heap m) (N : News g L s.heap ((e, excObj D.C t none #[]) :: news)) (hne : ∀ p ∈ news, p.1 ≠ e)
    (hq : ∀ h' tk' dx o, Fr g L h' m → News g L h' ((e, excObj D.C t (some dx) #[]) :: (dx, o) :: news) → N1Obj o (fun y => if y = name then some v else none) → dx ≠ e → (∀ p ∈ news, p.1 ≠ dx) → Q () { s with heap := h', toks := tk' }) :
    wpAny (model prog w) A (setAttr (.ref e) name v) Q E s := by
  obtain ⟨hp, gs, dr, tk, os⟩ := s
  have Xh : K.In hp := X.keeps F.keep
  obtain ⟨he, heL, heg⟩ := N _ (.head _)
  refine xs_attr (Xh _ _ D.cls) (flt_ns Xh) (nsMap_none_of_in Xh D.nsOk D.noSa) (nsMap_none_of_in Xh D.nsOk hno) hB he rfl (fun c q => by cases q) rfl (fun h' tk' a1 a2 a3 => ?_)
  obtain ⟨oD, hoD, hN1⟩ := n1_of a2
  have lt : ∀ {b o}, hp.get? b = some o → b ≠ hp.objs.size := fun hb => Nat.ne_of_lt (Heap.lt_size hb)
  have dg : g.get? hp.objs.size = none := by
    cases z : g.get? hp.objs.size with
    | none => rfl
    | some o => exact absurd rfl (lt (F.keep _ _ z))
  obtain ⟨oL, _, _, hL', _⟩ := F.ns
  refine hq h' tk' hp.objs.size oD (fr_keep F a3 (Ne.symm heL) heg) (fun p hp' => ?_) hN1 (Ne.symm (lt he)) fun p hp' => lt (N p (.tail _ hp')).1
  rcases List.mem_cons.mp hp' with rfl | hp'
  · exact ⟨a1, heL, heg⟩
  rcases List.mem_cons.mp hp' with rfl | hp'
  · exact ⟨hoD, Ne.symm (lt hL'), dg⟩
  · obtain ⟨b1, b2, b3⟩ := N p (.tail _ hp')
    exact ⟨a3 _ _ (hne p hp') b1, b2, b3⟩
/-- a further attribute is set on the exception -/
theorem flt_store2 {t dx : Addr} {ox : Obj} {v : Value} {name : Str} {mA : Str → Option Value} {ns : List Str} {Q : Unit → Shared → Prop} (X : K.In g) (hno : nsIn K D.N name = some none) (hB : typeLookup (.type "ValueError") name = pure none)
    (F : Fr g L s.heap m) (N : News g L s.heap ((e, excObj D.C t (some dx) #[]) :: (dx, ox) :: news)) (hN : N1Obj ox mA) (hde : dx ≠ e) (hne : ∀ p ∈ news, p.1 ≠ e) (hnd : ∀ p ∈ news, p.1 ≠ dx) (hw : Within mA ns) (hs : ns.length ≤ 10)
    (hq : ∀ h' tk' o, Fr g L h' m → News g L h' ((e, excObj D.C t (some dx) #[]) :: (dx, o) :: news) → N1Obj o (fun y => if y = name then some v else mA y) → Q () { s with heap := h', toks := tk' }) :
    wpAny (model prog w) A (setAttr (.ref e) name v) Q E s := by
  obtain ⟨hp, gs, dr, tk, os⟩ := s
  have Xh : K.In hp := X.keeps F.keep
  obtain ⟨he, heL, heg⟩ := N _ (.head _)
  obtain ⟨hd, hdL, hdg⟩ := N _ (.tail _ (.head _))
  refine store_attr PySem.F.store_ValueError (Xh _ _ D.cls) (flt_ns Xh) (nsMap_none_of_in Xh D.nsOk D.noSa) (nsMap_none_of_in Xh D.nsOk hno) hB (flt_ne X heg) ⟨_, he, rfl, (fun c q => by cases q), .inr ⟨dx, rfl, hde, hN _ _ hd⟩⟩ (fun h' tk' I' hk hsame => ?_) hw (by rw [sizeLine_eq]; omega)
  obtain ⟨o₁, h1, hc1, hd1, hs1, hdd1⟩ := hsame _ he
  obtain ⟨o, hx, hc, _, hdd⟩ := I'
  obtain rfl : o = o₁ := Option.some.inj (hx.symm.trans h1)
  have hdd1 := hdd1 dx rfl
  rcases hdd with ⟨hz, _⟩ | ⟨dy, hdy, hdne, hns⟩
  · rw [hdd1] at hz; cases hz
  rw [hdd1] at hdy; cases hdy
  obtain ⟨oD, hoD, hN1⟩ := n1_of hns
  have keep : ∀ b o, b ≠ e → b ≠ dx → hp.get? b = some o → h'.get? b = some o := fun b o h1 h2 h3 => hk b o h1 (fun o₀ dy e1 e2 => by
    have e1 := Option.some.inj (he.symm.trans e1)
    rw [← e1] at e2; cases e2; exact h2) h3
  have hoe : h'.get? e = some (excObj D.C t (some dx) #[]) := by
    have e : o = ⟨o.cls, o.dict, o.data, o.slots⟩ := rfl
    rw [hx, e, hc1, hdd1, hd1, hs1]
  obtain ⟨oL, es, ep, hL', rL⟩ := F.ns
  refine hq h' tk' oD ⟨⟨oL, es, ep, keep _ _ (Ne.symm heL) (Ne.symm hdL) hL', rL⟩, fun b o hb => keep b o (fun q => by rw [q, heg] at hb; cases hb) (fun q => by rw [q, hdg] at hb; cases hb) (F.keep b o hb), F.above⟩ (fun p hp' => ?_) hN1
  rcases List.mem_cons.mp hp' with rfl | hp'
  · exact ⟨hoe, heL, heg⟩
  rcases List.mem_cons.mp hp' with rfl | hp'
  · exact ⟨hoD, hdL, hdg⟩
  · obtain ⟨b1, b2, b3⟩ := N p (.tail _ (.tail _ hp'))
    exact ⟨keep _ _ (hne p hp') (hnd p hp') b1, b2, b3⟩
end
end Mine
namespace Mine
open PySem PySem.W PyProof.Rows PySem.Calls PySem.SeqAt
theorem ns_some_of {K : Frag} {h : Heap} {N : Addr} {mg : Str → Option Value} {n : Str} {v : Value} (X : K.In h) (G : h.Ns N mg) (e : nsIn K N n = some (some v)) : mg n = some v := by
  obtain ⟨o, es, ep, ho, hd, _, hf⟩ := G
  unfold nsIn at e
  split at e
  · rename_i c d es' n' sl q
    have := X _ _ q
    rw [ho] at this
    cases this
    cases hd
    split at e
    · rename_i en he
      cases e
      rw [← hf]
      unfold nsFind findBy
      rw [← Array.find?_toList, he]
      rfl
    · split at e <;> cases e
  · cases e
theorem at_method {prog : Program} {w : World} {A : Around} {c : Code} {E : Value → Shared → Prop} {s : Shared} {env : Env} {o arg : Expr} {n : Str} {ap pos : Pos} {Q : Value → Shared → Prop} (hp : (ap.endLine == pos.line) = true) (ha : noStars [arg] = true)
    (h : _root_.PySem.wpAt (model prog w) A c (attributeBase o n env (eval o env)) (fun ov s₁ => ∀ pl, wpAny (model prog w) A (getMethod ov n pl) (fun fx s₂ => wpAny (model prog w) A (callWith pos fx.1 fx.2 (backTo pos (starEach [arg] env)) []) Q E s₂) E s₁) E s) :
    _root_.PySem.wpAt (model prog w) A c (eval (.Call (.Attribute o n ap) [arg] [] pos) env) Q E s := by
  show _root_.PySem.wpAt _ _ _ (attributeBase o n env (eval o env) >>= fun ov => standAt ap.atName >>= fun _ => methodCall o n ap pos env ov ([arg].length + ([] : List Keyword).length) (backTo pos (starEach [arg] env)) (backToKw pos (keywordEach [] env))) Q E s
  have few : methodCallForm ([arg].length + ([] : List Keyword).length) (backTo pos (starEach [arg] env)) (backToKw pos (keywordEach [] env)) = true := by
    unfold methodCallForm
    have h1 : (backTo pos (starEach [arg] env)).all (!·.1) = true := by
      have := nostar ha pos env
      rw [List.any_eq_false] at this
      rw [List.all_eq_true]
      intro x hx
      have := this x hx
      simpa using this
    rw [h1]
    have h2 : (backToKw pos (keywordEach [] env)) = [] := rfl
    rw [h2]
    rfl
  refine _root_.PySem.wpAt_bind (_root_.PySem.wpAt_mono h (fun ov s₁ h₁ => _root_.PySem.wpAt_of_wpAny (wpAny_bind (wpAny_standAt ?_))) fun _ _ x => x)
  unfold methodCall
  rw [few]
  refine wpAny_bind (wpAny_holding (wpAny_mono (h₁ _) (fun fx s₂ h₂ => ?_) fun _ _ x => x))
  have hpos : methodCallPos true o env ap pos = pure pos := by
    unfold methodCallPos
    rw [hp]; rfl
  obtain ⟨f, first⟩ := fx
  exact wpAny_bind (wpAny_of_eq hpos h₂)
section
variable {G : Gl} {Φ : Fm} {d : Nat} {E : Value → Shared → Prop} {m : Str → Option Value} {news : Led} {s : Shared}
theorem flt_init (D : FltD G.prog G.K) (DO : FltOk D) (ok : FmOk G Φ (d + 2)) (F : Fr Φ.h₀ Φ.L s.heap m) (N : News Φ.h₀ Φ.L s.heap news) (nd : (news.map (·.1)).Nodup) {l : List Nat} {i : Nat} {t1 t2 : Tok} (hl : l.length < 1000) (hi : i < 100) (hat : D.at_.length < 1000) {Q : Value → Shared → Prop}
    (hq : ∀ e h' tk' t dx o mA, (∀ p ∈ news, p.1 ≠ e) → (∀ p ∈ news, p.1 ≠ dx) → dx ≠ e → Fr Φ.h₀ Φ.L h' m → News Φ.h₀ Φ.L h' ((e, excObj D.C t (some dx) #[]) :: (dx, o) :: news) → N1Obj o mA → mA D.na = some (.str ⟨l.toArray⟩ t1) → mA D.nb = some (.int i t2) → Q (.ref e) { s with heap := h', toks := tk' }) :
    wpAny (model G.prog G.w) Φ.A (call (.ref D.C) [.str ⟨l.toArray⟩ t1, .int i t2]) Q E s := by
  obtain ⟨hp, gs, dr, tk, os⟩ := s
  have Xh : G.K.In hp := ok.X.keeps F.keep
  refine wpAny_call_exc_init PySem.F.excBase_ValueError (Xh _ _ D.cls) (flt_ns Xh) (ns_some_of Xh (flt_ns Xh) D.init) (Xh _ _ DO.fn) DO.oc (fun h' e hm => ?_) (by show (2 : Nat) ≤ sizeLine; rw [sizeLine_eq]; omega)
  generalize hc : Code.builtin "type.__call__" ⟨.ref D.C :: [.str ⟨l.toArray⟩ t1, .int i t2], []⟩ = c
  have cw : c.weight ≤ 1 := by subst hc; exact Nat.le_of_ble_eq_true (by kernel_rfl)
  have cu : c.cUnits ≤ 4 := by subst hc; exact Nat.le_of_ble_eq_true (by kernel_rfl)
  have hfr : (Φ.A.under c).frames = some (Φ.fenv :: Φ.outer) := by
    subst hc
    have := Around.frames_deeper (env := Φ.fenv) ok.B.stack
    show pushEnvs [] Φ.A.frames = _
    exact this
  have dep : (Φ.A.under c).depth ≤ Φ.A₀.depth + 2 := by show Φ.A₀.depth + 1 + c.weight ≤ _; omega
  have hha : (Φ.A.under c).handled = none := ok.hd
  have unt : (Φ.A.under c).units ≤ Φ.A₀.units + 7 := by show Φ.A₀.units + 3 + c.cUnits ≤ _; omega
  generalize Φ.A.under c = A' at hfr dep hha unt ⊢
  refine wpAny_call ?_
  obtain ⟨t, het, htn, htt⟩ := hm.there
  have hne : ∀ p ∈ news, p.1 ≠ e := fun p hp' q => by
    have := (N p hp').1
    rw [q, hm.new] at this; cases this
  have heg : Φ.h₀.get? e = none := by
    cases z : Φ.h₀.get? e with
    | none => rfl
    | some o => have := F.keep _ _ z; rw [hm.new] at this; cases this
  obtain ⟨oL, es, ep, hL', rL⟩ := F.ns
  have F1 : Fr Φ.h₀ Φ.L h' m := ⟨⟨oL, es, ep, hm.keeps _ _ hL', rL⟩, fun b o hb => hm.keeps _ _ (F.keep b o hb), F.above⟩
  have N1 : News Φ.h₀ Φ.L h' ((e, excObj D.C t none #[]) :: news) := fun p hp' => by
    rcases List.mem_cons.mp hp' with rfl | hp'
    · refine ⟨het, fun q => ?_, heg⟩
      have hn := hm.new
      rw [show e = Φ.L from q, hL'] at hn
      cases hn
    · exact ⟨hm.keeps _ _ (N p hp').1, (N p hp').2⟩
  refine ks_code_super (s := ⟨h', gs, dr, tk, os⟩) ok.B F1 ok.X N1 ok.T hfr rfl ok.fn DO.fn DO.code (by have := ok.dp; omega) (BindsTo.of_eq (DO.bind _ _ _)) ?_ (fun g L' h₁ FG F' N' B' X' T' hlt => ?_) DO.noCell DO.co DO.gen DO.kind
  · intro y hy
    rcases List.mem_cons.mp hy with rfl | hy
    · exact DO.lps
    rcases List.mem_cons.mp hy with rfl | hy
    · exact DO.lpn
    rcases List.mem_cons.mp hy with rfl | hy
    · exact DO.lpp
    · cases hy
  obtain ⟨n1, n2, n3⟩ := DO.dist
  have b1 : (D.ps == D.pp) = false := beq_eq_false_iff_ne.mpr n2
  have b2 : (D.ps == D.pn) = false := beq_eq_false_iff_ne.mpr n1
  have b3 : (D.pn == D.pp) = false := beq_eq_false_iff_ne.mpr n3
  generalize hmB : (fun y => List.lookup y [(D.ps, Value.ref e), (D.pn, Value.str ⟨l.toArray⟩ t1), (D.pp, Value.int i t2)].reverse) = mB at F'
  have ms : mB D.ps = some (.ref e) := by subst hmB; show List.lookup D.ps [(D.pp, _), (D.pn, _), (D.ps, _)] = _; simp [List.lookup, b1, b2]
  have mn : mB D.pn = some (.str ⟨l.toArray⟩ t1) := by subst hmB; show List.lookup D.pn [(D.pp, _), (D.pn, _), (D.ps, _)] = _; simp [List.lookup, b3]
  have mp : mB D.pp = some (.int i t2) := by subst hmB; show List.lookup D.pp [(D.pp, _), (D.pn, _), (D.ps, _)] = _; simp [List.lookup]
  obtain ⟨ccl, cdd, cvs, ccs, file, tf, co1, co2, co3⟩ := DO.codeO
  obtain ⟨cl, cld, csl, hcell⟩ := DO.cell
  obtain ⟨cd, hcd, hmro⟩ := DO.clsD
  obtain ⟨ar, har, hara⟩ := DO.first
  have heg' : g.get? e = none := (N' _ (.head _)).2.2
  have heC : e ≠ D.C := flt_ne X' heg'
  refine ks_wpAt_execs_cons (ks_wpAt_Expr_any (hi := by show (D.scope.kind == .module && _) = false; rw [DO.kind]; rfl) (at_method DO.pos rfl (ks_node (s := ⟨h₁, gs, dr, _, os⟩) F' X' N' T' DO.fn har (by rw [hara]; exact ms) (odx := none) ⟨(N' _ (.head _)).1, rfl, rfl, trivial⟩ co1 co2 co3 hcell hcd DO.subC DO.super (by decide) DO.lsu DO.lcl (by rw [hara]; exact DO.lps) DO.kind DO.top (by kernel_rfl) (fun so h₂ F₂ N₂ l₂ pl => ?_))))
  have X₂ : G.K.In h₂ := X'.keeps F₂.keep
  refine sup_getm (N₂ _ (.head _)).1 (looks_opaque X₂ DO.any) (l₀ := cd.mro) (fun A Q E s k q => wpAny_bind ((looks_clsIn X₂ hcd) A _ E s k (wpAny_pure q))) (l := bmVE) (by rw [hmro]; simp [List.dropWhile]) X₂ DO.along heC (N₂ _ (.tail _ (.head _))).1 rfl (looks_mroIn X₂ DO.subV) ?_
  obtain ⟨F₃, N₃, l₃⟩ := ks_newsPush (s := ⟨h₂, gs, dr, 0, os⟩) (o := wrapObj e) F₂ N₂ rfl (Heap.get?_push_at rfl rfl) (fun b o hb => Heap.get?_push_of_some _ hb)
  have mem3 : ∀ x ∈ [D.ps, D.pn, D.pp], D.scope.names.lookup x = some .local := fun x hx => by
    simp only [List.mem_cons, List.not_mem_nil, or_false] at hx
    rcases hx with rfl | rfl | rfl
    · exact DO.lps
    · exact DO.lpn
    · exact DO.lpp
  have pinj : ∀ {a b : Str}, Pl.loc a = Pl.loc b → a = b := fun h => by cases h; rfl
  have ndp : ([D.ps, D.pn, D.pp].map Pl.loc).Nodup := by
    refine List.nodup_cons.mpr ⟨fun h => ?_, List.nodup_cons.mpr ⟨fun h => ?_, List.nodup_cons.mpr ⟨List.not_mem_nil, List.nodup_nil⟩⟩⟩
    · rcases List.mem_cons.mp h with q | h
      · exact n1 (pinj q)
      · rcases List.mem_cons.mp h with q | h
        · exact n2 (pinj q)
        · cases h
    · rcases List.mem_cons.mp h with q | h
      · exact n3 (pinj q)
      · cases h
  have oki : FmOk G ⟨A', Φ.base, g, Φ.fenv :: Φ.outer, L', D.fI, D.fqual, D.scope, .ref D.cda, [("__class__", D.cc)], ksEnv D.fqual D.scope L' D.fI (.ref D.cda) D.cc, L', [D.ps, D.pn, D.pp].map Pl.loc, [D.ps, D.pn, D.pp], [], false, false⟩ d :=
    ⟨B', X', T', fun b o hb => FG.keep b o (ok.kb b o hb), ok.Kb, DO.kind, (by have := ok.dp; show A'.depth + 1 + d < _; omega), (by have := ok.un; show A'.units + 3 + 20 * (d + 1) < _; omega), hha, ndp, ok.na, DO.kind, rfl, rfl,
      fun i x _ hx _ => ⟨rfl, (by show (List.map Pl.loc [D.ps, D.pn, D.pp])[i]? = _; rw [List.getElem?_map, show [D.ps, D.pn, D.pp][i]? = some x from hx]; rfl)⟩,
      fun i x hx hl => (by have := mem3 x (List.mem_of_getElem? hx); rw [show D.scope.names.lookup x = some .cell from hl] at this; cases this),
      fun _ _ h _ _ => (by cases h), fun _ => ⟨rfl, rfl, rfl, fun x h => (by simp at h)⟩, fun h => (by cases h)⟩
  have nd3 : (((h₂.objs.size, wrapObj e) :: (so, ks_superObj D.C e D.C) :: (e, excObj D.C t none #[]) :: news).map (·.1)).Nodup := by
    refine List.nodup_cons.mpr ⟨fun h => ?_, List.nodup_cons.mpr ⟨fun h => ?_, List.nodup_cons.mpr ⟨fun h => ?_, nd⟩⟩⟩
    · obtain ⟨p, hp', q⟩ := List.mem_map.mp h
      exact absurd (l₃ p hp') (by rw [q]; exact Nat.lt_irrefl _)
    · obtain ⟨p, hp', q⟩ := List.mem_map.mp h
      exact absurd (l₂ p hp') (by rw [q]; exact Nat.lt_irrefl _)
    · obtain ⟨p, hp', q⟩ := List.mem_map.mp h
      exact hne p hp' q
  have loi : ∀ (j : Nat) (v : AV), ([none, some (.p (.str l)), some (.p (.int i))] : List (Option AV))[j]? = some (some v) → ∃ p v', ([D.ps, D.pn, D.pp].map Pl.loc)[j]? = some p ∧ p.reads L' ⟨mB, []⟩ v' ∧ VRel G.an G.hb ([] : List Addr) [] v v' := fun j v hv => by
    match j, hv with
    | 0, hv => cases hv
    | 1, hv => cases hv; exact ⟨_, _, rfl, mn, .p (.str _ _)⟩
    | 2, hv => cases hv; exact ⟨_, _, rfl, mp, .p (.int _ _)⟩
    | _ + 3, hv => cases hv
  have ri : Re G ⟨A', Φ.base, g, Φ.fenv :: Φ.outer, L', D.fI, D.fqual, D.scope, .ref D.cda, [("__class__", D.cc)], ksEnv D.fqual D.scope L' D.fI (.ref D.cda) D.cc, L', [D.ps, D.pn, D.pp].map Pl.loc, [D.ps, D.pn, D.pp], [], false, false⟩ ((h₂.objs.size, wrapObj e) :: (so, ks_superObj D.C e D.C) :: (e, excObj D.C t none #[]) :: news) ⟨[], 0, [none, some (.p (.str l)), some (.p (.int i))]⟩ (h₂.push (wrapObj e)) ⟨mB, []⟩ [] [] :=
    ⟨F₃, N₃, nd3, .nil, fun k ao h => (by cases h), Nat.le_refl _, loi, fun a h => (by simp at h)⟩
  refine wrap_callWith (e := e) (nostar rfl _ _) (args_of rfl (flt_args (s := ⟨h₂.push (wrapObj e), gs, dr, _, os⟩) oki rfl rfl rfl DO.lpn DO.lpp DO.dpn DO.dpp DO.lst DO.str ri rfl rfl hl hat hi (fun v h₄ tk₄ trk₄ frz₄ r₄ => ?_)))
  have N₄ : News g L' h₄ ((h₂.objs.size, wrapObj e) :: (so, ks_superObj D.C e D.C) :: (e, excObj D.C t none #[]) :: news) := newsSub r₄.N fun p hp' => by
    simp only [List.mem_append]
    exact .inr (.inr (.inr hp'))
  have F₄ : Fr g L' h₄ mB := r₄.F
  have X₄ : G.K.In h₄ := X'.keeps F₄.keep
  have he₄ := N₄ _ (.tail _ (.tail _ (.head _)))
  refine ⟨(N₄ _ (.head _)).1, wrap_call (X₄ _ _ D.cls) (N₄ _ (.head _)).1 he₄.1 rfl rfl rfl ?_⟩
  have keep5 : ∀ b o, b ≠ e → h₄.get? b = some o → ((h₄.push { cls := .type "tuple", data := .seq #[v] }).update e (Obj.mapFields (·.setIfInBounds 0 (.ref h₄.objs.size)))).get? b = some o := fun b o hb h => (Heap.get?_update_other _ _ (Ne.symm hb)).trans (Heap.get?_push_of_some _ h)
  have he₅ : ((h₄.push { cls := .type "tuple", data := .seq #[v] }).update e (Obj.mapFields (·.setIfInBounds 0 (.ref h₄.objs.size)))).get? e = some (excObj D.C h₄.objs.size none #[]) :=
    Heap.get?_update_self _ (Heap.get?_push_of_some _ he₄.1) rfl
  generalize (h₄.push { cls := .type "tuple", data := .seq #[v] }).update e (Obj.mapFields (·.setIfInBounds 0 (.ref h₄.objs.size))) = h₅ at keep5 he₅ ⊢
  have F₅ : Fr g L' h₅ mB := fr_keep F₄ keep5 (Ne.symm he₄.2.1) heg'
  have N₅ : News g L' h₅ ((e, excObj D.C h₄.objs.size none #[]) :: news) := fun p hp' => by
    rcases List.mem_cons.mp hp' with rfl | hp'
    · exact ⟨he₅, he₄.2⟩
    · have := N₄ p (.tail _ (.tail _ (.tail _ hp')))
      exact ⟨keep5 _ _ (hne p hp') this.1, this.2⟩
  have hks : (ksEnv D.fqual D.scope L' D.fI (.ref D.cda) D.cc).scope.kind = .function := DO.kind
  refine ks_wpAt_execs_cons (ks_wpAt_Assign_Attr (_root_.PySem.wpAt_of_wpAny (wpAny_Name (wpAny_loadName_local hks DO.lpn F₅.ns mn (wpAny_Name (wpAny_loadName_local hks DO.lps F₅.ns ms (flt_store1 (D := D) X' D.noA D.lkA F₅ N₅ hne (fun h₆ tk₆ dx o F₆ N₆ O₆ hdx hnd => ?_))) DO.dps)) DO.dpn)))
  refine ks_wpAt_execs_cons (ks_wpAt_Assign_Attr (_root_.PySem.wpAt_of_wpAny (wpAny_Name (wpAny_loadName_local hks DO.lpp F₆.ns mp (wpAny_Name (wpAny_loadName_local hks DO.lps F₆.ns ms (flt_store2 (D := D) X' D.noB D.lkB F₆ N₆ O₆ hdx hne hnd (Within.cons D.na _ Within.nil) (by simp) (fun h₇ tk₇ o₇ F₇ N₇ O₇ => ?_))) DO.dps)) DO.dpp)))
  refine _root_.PySem.wpAt_of_wpAny (wpAny_execs_nil ⟨L', mB, _, F₇, N₇, fun FF NN => ⟨rfl, hq e h₇ _ _ dx o₇ _ hne hnd hdx FF NN O₇ ?_ ?_⟩⟩)
  · have : ¬ D.na = D.nb := beq_eq_false_iff_ne.mp D.ne
    simp [this]
  · simp
end
end Mine
namespace Mine
open PySem PySem.W PyProof.Rows PySem.Calls PySem.SeqAt
section
variable {G : Gl} {Φ : Fm} {d : Nat} {own : Led} {σ : St} {h h' : Heap} {m : Nm} {trk frz : Led} {s : Shared} {E : Value → Shared → Prop} {P : Prg}
/-- a fault in flight -/
theorem XCore.flt {f : FltP G.prog G.K G.an} (hf : G.fx = some f) {l : List Nat} {i : Int} {tk2 : Tok} {e t dx : Addr} {o : Obj} {mA : Str → Option Value} (ok : FmOk G Φ d) (r : Re G Φ own σ h m trk frz)
    (hne : ∀ p ∈ trk ++ (frz ++ (m.cel ++ own)), p.1 ≠ e) (hde : dx ≠ e) (FF : Fr Φ.h₀ Φ.L h' m.fn) (NN : News Φ.h₀ Φ.L h' ((e, excObj f.D.C t (some dx) #[]) :: (dx, o) :: (trk ++ (frz ++ (m.cel ++ own))))) (O : N1Obj o mA) (hb : mA f.D.nb = some (.int i tk2)) :
    XCore G Φ own ⟨f.D.C, [f.ia, f.ib], [.str l, .int i]⟩ σ m trk frz e h' := by
  have r' : Re G Φ own σ h' m trk frz := ⟨FF, newsSub NN fun p hp => .tail _ (.tail _ hp), r.nd, r.hp, r.bd, r.hw, r.lo, r.ca⟩
  have hL : ∀ b o, Φ.h₀.get? b = some o → b ≠ Φ.L := fun b o hb q => absurd (Nat.lt_of_lt_of_le (Heap.lt_size hb) FF.above) (q ▸ Nat.lt_irrefl _)
  have hbase : Φ.base.get? Φ.L = none := by
    cases hq : Φ.base.get? Φ.L with
    | none => rfl
    | some o => exact absurd rfl (hL _ o (ok.B.stays _ o hq))
  have ff : h'.FunFrames Φ.base (Φ.fenv :: Φ.outer) := .cons (by show Φ.scope.kind ≠ .module; rw [ok.fn]; decide) rfl FF.ns hbase (ok.B.frames.of_keeps fun b o e _ => ⟨o, FF.keep b o e, rfl⟩)
  have hin : ∀ env ∈ Φ.fenv :: Φ.outer, ∀ a, env.frame = some a → a ∈ e :: (Φ.fenv :: Φ.outer).filterMap (·.frame) := fun env he b hb => .tail _ (List.mem_filterMap.mpr ⟨env, he, hb⟩)
  have mem : ∀ b, b ∈ e :: (Φ.fenv :: Φ.outer).filterMap (·.frame) → b = e ∨ b = Φ.L ∨ b ∈ Φ.outer.filterMap (·.frame) := fun b hb => (List.mem_cons.mp hb).imp id fun hb => List.mem_cons.mp (show b ∈ Φ.L :: Φ.outer.filterMap (·.frame) from hb)
  have fr0 : ∀ b, b ∈ Φ.outer.filterMap (·.frame) → ∃ o, Φ.h₀.get? b = some o := fun b hb => by
    obtain ⟨_, o, ho, _⟩ := ok.B.frames.mem hb
    exact ⟨o, ho⟩
  obtain ⟨e1, e2, e3⟩ := NN _ (.head _)
  obtain ⟨d1, d2, d3⟩ := NN _ (.tail _ (.head _))
  refine ⟨h', hideAll h' (e :: (Φ.fenv :: Φ.outer).filterMap (·.frame)), some dx, r', ⟨fun q hq => hideAll_get _ (r'.N q hq).1 fun hb => ?_, fun b o hb hn => hideAll_get _ (FF.keep b o hb) fun hq => ?_, fun b o q => of_hideAll _ q, ?_, .refl _, hideAll_none _ (.head _), .inl ⟨_, _, e1, rfl, rfl, rfl, rfl⟩⟩, .inr ⟨f, i, tk2, dx, o, mA, l, hf, rfl, rfl, hideAll_get _ d1 fun hb => ?_, O, hb⟩⟩
  · rcases mem _ hb with q' | q' | q'
    · exact hne q hq q'
    · exact (r'.N q hq).2.1 q'
    · obtain ⟨o, ho⟩ := fr0 _ q'
      rw [(r'.N q hq).2.2] at ho; cases ho
  · rcases mem _ hq with q' | q' | q'
    · rw [q', e3] at hb; cases hb
    · exact hL b o hb q'
    · exact hn q'
  · exact funFrames_hide ff hin
  · rcases mem _ hb with q' | q' | q'
    · exact hde q'
    · exact d2 q'
    · obtain ⟨o, ho⟩ := fr0 _ q'
      rw [d3] at ho; cases ho
theorem ss_flt {x : Str} {np cpos pos : Pos} {args : List Expr} {rl : St → Out (List AV)} {f : FltP G.prog G.K G.an} (hf : G.fx = some f) (ok : FmOk G Φ (d + 2)) (hk : Φ.env.scope.names.lookup x = some .globalImplicit) (hd : (x == ("__debug__" : Str)) = false) (hv : nsIn G.K mainGlobals x = some (some (.ref f.D.C)))
    (hc : noStars args = true) (hl : SExs G Φ args rl) : SSt G Φ (.Raise (some (.Call (.Name x np) args [] cpos)) none pos) (fun _ σ => (rl σ).bind fun vs σ => mkFlt f.D.C f.ia f.ib vs σ) := by
  intro fb own σ s m trk frz Q E r hfb p
  refine raise_fault (C := f.D.C) (nm := f.D.nm) (q := f.D.q) (N := f.D.N) (bs := f.D.bs) (bm := bmVE) (hdct := true) (sn := f.D.sn) (sub := f.D.sub) (ab := f.D.ab) (col := f.D.col) (dd := f.D.dd) (k0 := f.D.k0) (k1 := f.D.k1) (k2 := f.D.k2) (k3 := f.D.k3) (k5 := f.D.k5) (newId := "ValueError.__new__")
    PySem.F.excBase_ValueError.hasBase (by exact ok.hd) (nostar hc _ _) (name_G ok r hk hd hv ⟨rfl, args_of hc (hl cpos own σ s m trk frz _ E r (p.bind (fun vs σ₁ vs' h₁ tk₁ trk₁ frz₁ _ r₁ e₁ f₁ v₁ p₁ => ?_) hfb))⟩)
  have X₁ : G.K.In h₁ := ok.X.keeps r₁.F.keep
  refine ⟨rfl, X₁ _ _ f.D.cls, ?_⟩
  unfold mkFlt at p₁
  cases v₁ with
  | nil => exact p₁.elim
  | cons hx hr =>
    cases hr with
    | nil => exact p₁.elim
    | cons hy hr =>
      cases hr with
      | cons _ _ => exact p₁.elim
      | nil =>
        dsimp only at p₁
        split at p₁
        · exact p₁.elim
        · rename_i l hsx
          split at p₁
          · exact p₁.elim
          · rename_i i hiy
            split at p₁
            · rename_i hb
              simp only [Bool.and_eq_true, decide_eq_true_eq] at hb
              obtain ⟨b1, b2, b3⟩ := hb
              obtain ⟨n, rfl⟩ := Int.eq_ofNat_of_zero_le b2
              rw [strOf_inv hsx] at hx
              rw [intOf_inv hiy] at hy
              cases hx with | p hx => cases hx with | str _ t1 =>
                cases hy with | p hy => cases hy with | int _ t2 =>
                  exact flt_init (s := ⟨h₁, s.gens, s.drawn, tk₁, s.os⟩) f.D f.ok ok r₁.F r₁.N r₁.nd (Nat.le_of_ble_eq_true b1) (by omega) f.at_ fun e h' tk' t dx o mA n1 n2 n3 FF NN O ha hb =>
                    ⟨e, t, some dx, #[], rfl, (ok.X.keeps FF.keep) _ _ f.D.cls, (NN _ (.head _)).1, p₁ e h' tk' m trk₁ frz₁ (XCore.flt hf ok r₁ n1 n3 FF NN O hb) (List.take_prefix _ _) fun _ q => q⟩
            · exact p₁.elim
end
end Mine
namespace Mine
open PySem PySem.W PyProof.Rows PySem.Calls PySem.SeqAt
section
variable {G : Gl} {Φ : Fm} {d : Nat} {own : Led} {σ : St} {h h' : Heap} {m : Nm} {trk frz : Led} {s : Shared} {E : Value → Shared → Prop} {P : Prg}
/-- a local name's slot is forgotten -/
theorem Re.unL {y : Str} {j : Nat} {m' : Str → Option Value} (ok : FmOk G Φ d) (r : Re G Φ own σ h m trk frz) (hj : Φ.pl[j]? = some (.loc y)) (hn : h'.Ns Φ.L m') (hs : Heap.SameBut Φ.L h h') (hm : ∀ x, x ≠ y → m' x = m.fn x) : Re G Φ own (unLo j σ) h' ⟨m', m.cel⟩ trk frz := by
  refine ⟨r.F.set hn hs, r.N.set hs, r.nd, r.hp, r.bd, r.hw, fun i v e => ?_, r.ca⟩
  have e : (σ.lo.set j none)[i]? = some (some v) := e
  rw [List.getElem?_set] at e
  split at e
  · split at e <;> cases e
  · rename_i hij
    obtain ⟨p, w', hp, hr, hvr⟩ := r.lo i v e
    refine ⟨p, w', hp, ?_, hvr⟩
    cases p with
    | loc x =>
      have : x ≠ y := fun q => hij (nd_inj ok.nn hj (q ▸ hp))
      show m' x = some w'
      rw [hm x this]; exact hr
    | cell b => exact hr
    | cmp x => exact hr
theorem pair_ok {A : Around} {f : FltP G.prog G.K G.an} {e dx : Addr} {oe o : Obj} {mA : Str → Option Value} {y : Str} {z : List Nat × Nat × Nat} {x : Expr} {i : Int} {t : Tok} {vsq : Array Value} {Q : Value → Shared → Prop} (ok : FmOk G Φ d) (hc : ckPair (Φ.cc G) y z x = true) (hz : z.2.2 = f.ib)
    (hl : Φ.env.scope.names.lookup y = some .local) (hloc : Φ.env.locals = Φ.L)
    (r : Re G Φ own σ s.heap m trk frz) (hy : m.fn y = some (.ref e)) (he : s.heap.get? e = some oe) (hec : oe.cls = .ref f.D.C) (hed : oe.dict = some dx) (hef : oe.data = .fields vsq) (hde : dx ≠ e) (hdx : s.heap.get? dx = some o) (hN : N1Obj o mA) (hi : mA f.D.nb = some (.int i t))
    (q : ∀ h' tk a o', Re G Φ own σ h' m trk ((a, o') :: frz) → VR G (trk.map (·.1)) ((a, o') :: frz) (.p (.tup [.str z.1, .int i])) (.ref a) → Q (.ref a) { s with heap := h', toks := tk }) :
    noSwap x = true ∧ wpAny (model G.prog G.w) A (eval x Φ.env) Q E s := by
  unfold ckPair at hc
  unfold noSwap
  revert hc
  generalize vw x = w
  obtain ⟨u, hu⟩ := w
  cases u <;> first | exact fun h => ff h | skip
  rename_i es k pos
  intro h
  cases hu
  refine ⟨rfl, ?_⟩
  cases es with
  | nil => exact ff h
  | cons e1 es =>
    cases es with
    | nil => exact ff h
    | cons e2 es =>
      cases es with
      | cons _ _ => exact ff h
      | nil =>
        obtain ⟨h1, h2⟩ := and2 h
        revert h1
        generalize vw e1 = w1
        obtain ⟨u1, hu1⟩ := w1
        cases u1 <;> first | exact fun h => ff h | skip
        rename_i k1 k2 k3
        intro h1
        cases hu1
        revert h2
        generalize vw e2 = w2
        obtain ⟨u2, hu2⟩ := w2
        cases u2 <;> first | exact fun h => ff h | skip
        rename_i ox nx px
        intro h2
        cases hu2
        obtain ⟨g2, h3⟩ := and2 h2
        revert h3
        generalize vw ox = w3
        obtain ⟨u3, hu3⟩ := w3
        cases u3 <;> first | exact fun h => ff h | skip
        rename_i wn wp
        intro h3
        cases hu3
        obtain ⟨h3, h4⟩ := and2 h3
        have h4 := (Bool.not_eq_true' _).mp h4
        have h3 := eq_of_beq h3
        subst h3
        have g2 : G.an[z.2.2]? = some nx := eq_of_beq g2
        rw [hz, f.hb] at g2
        cases g2
        cases k1 <;> first | exact ff h1 | skip
        have h1 := eq_of_beq h1
        subst h1
        refine Tuple_ ?_
        rw [noStar_eq rfl]
        refine spliced_cons (wpAny_Constant_str (k := k2) (pos := k3) ?_)
        show wpAny _ _ (spliced (backTo pos (starEach [_] Φ.env))) _ _ _
        rw [noStar_eq rfl]
        obtain ⟨hp, gs, dr, tk, os⟩ := s
        have Xh : G.K.In hp := ok.X.keeps r.F.keep
        refine spliced_cons (Attribute_any_ (value := .Name wn wp) (attr := f.D.nb) (pos := px) (wpAny_Name (x := wn) (pos := wp) (wpAny_loadName_local ok.ek hl (by rw [hloc]; exact r.F.ns) hy ?_) h4) (by rw [arm_eval_Attribute, abOk_eq rfl]))
        refine xl_attr (Xh _ _ f.D.cls) (flt_ns Xh) (nsMap_none_of_in Xh f.D.nsOk f.D.noGa) (nsMap_none_of_in Xh f.D.nsOk f.D.noGh) (nsMap_none_of_in Xh f.D.nsOk f.D.noB) f.D.lkB ⟨oe, he, hec, (fun c hq => by rw [hef] at hq; cases hq), .inr ⟨dx, hed, hde, hN _ _ hdx⟩⟩ hi rfl ?_
        refine spliced_nil (newTuple_N r.F r.N (fun h' F' N' => ?_) (by rw [sizeLine_eq]; simp))
        exact q h' _ _ _ (r.pushF F' N' (fun p hp => Heap.lt_size (r.N p hp).1)) (.p (.tup (.inr (.head _)) rfl rfl (.cons (.str _ _) (.cons (.int _ _) .nil))))

theorem hdlA_inv {x : Exn} {j fb : Nat} {h : Sx} {τ : St} (hn : hdlA x j fb h τ ≠ .stuck) : ∃ a q z i, oneOf h = some a ∧ asgOf a = some q ∧ pairX q.2 = some z ∧ q.1 ≠ j ∧ fldI x z.2.2 = some i ∧ hdlA x j fb h τ = .ok .next (trim fb (unLo j (setLo q.1 (.p (.tup [.str z.1, .int i])) τ))) := by
  unfold hdlA at hn ⊢
  cases e1 : oneOf h with
  | none => rw [e1] at hn; exact absurd rfl hn
  | some a =>
    rw [e1] at hn
    dsimp only at hn
    cases e2 : asgOf a with
    | none => rw [e2] at hn; exact absurd rfl hn
    | some q =>
      rw [e2] at hn
      dsimp only at hn
      cases e3 : pairX q.2 with
      | none => rw [e3] at hn; exact absurd rfl hn
      | some z =>
        rw [e3] at hn
        dsimp only at hn
        cases e4 : (Nat.beq z.2.1 j && !Nat.beq q.1 j) with
        | false => rw [e4] at hn; exact absurd rfl hn
        | true =>
          rw [e4] at hn
          dsimp only at hn
          cases e5 : fldI x z.2.2 with
          | none => rw [e5] at hn; exact absurd rfl hn
          | some i =>
            refine ⟨a, q, z, i, rfl, e2, e3, ?_, e5, ?_⟩
            · intro e
              rw [e, Bool.and_eq_true, Nat.beq_refl] at e4
              exact absurd e4.2 (by simp)
            · dsimp only; rw [e2]; dsimp only; rw [e3]; dsimp only; rw [e4]; dsimp only; rw [e5]
theorem fldI_inv {C a b n : Nat} {l : List Nat} {i i' : Int} (h : fldI ⟨C, [a, b], [.str l, .int i]⟩ n = some i') : n = b ∧ i' = i := by
  have h : (match Nat.beq n b with | true => some i | false => none) = some i' := h
  cases e : Nat.beq n b with
  | false => rw [e] at h; cases h
  | true => rw [e] at h; exact ⟨Nat.eq_of_beq_eq_true e, (Option.some.inj h).symm⟩
theorem unLo_again {j q : Nat} {v : AV} (τ : St) (h : q ≠ j) : unLo j (setLo q v (unLo j τ)) = unLo j (setLo q v τ) := by
  unfold unLo setLo
  dsimp only
  rw [List.set_comm _ _ (Ne.symm h), List.set_set]

theorem ss_tryA {x y : Str} {np hp pos : Pos} {b : List Stmt} {b₀ : Stmt} {hs : List Stmt} {C j : Nat} {hx : Sx} {rb : Nat → St → Out Fl} (ok : FmOk G Φ d) (ht : Φ.top = true) (hcm : Φ.cm = false) (hk : Φ.env.scope.names.lookup x = some .globalImplicit) (hd : (x == ("__debug__" : Str)) = false) (hv : nsIn G.K mainGlobals x = some (some (.ref C))) (hq : ktsIn G.K C "BaseException" = true)
    (hly : Φ.env.scope.names.lookup y = some .local) (hj : Φ.ns[j]? = some y) (hb : SSts G Φ b rb) (hh : ckHa (Φ.cc G) y (b₀ :: hs) hx = true) : SSt G Φ (.Try b [.ExceptHandler (some (.Name x np)) (some y) (b₀ :: hs) hp] [] [] pos) (fun fb σ => tryStep fb (rb fb σ) C (some j) hx) := by
  intro fb own σ s m trk frz Q E r hl p
  refine wpAny_Try_except (hb fb own σ s m trk frz _ _ r hl ?_)
  dsimp only at p
  revert p
  cases rb fb σ with
  | stuck => exact fun p => p
  | ok f τ =>
    intro p f' h' tk' m' trk' frz' r' e' g' v'
    cases v' with
    | next => exact wpAny_execs_nil (p .next h' tk' m' trk' frz' r' e' g' .next)
    | brk => exact p .brk h' tk' m' trk' frz' r' e' g' .brk
    | cont => exact p .cont h' tk' m' trk' frz' r' e' g' .cont
    | ret v => exact p _ h' tk' m' trk' frz' r' e' g' (.ret v)
  | exc xx τ =>
    intro p
    have pp : PostS G Φ own fb trk frz s (match Nat.beq xx.C C with | true => hdlA xx j fb hx τ | false => .stuck) Q E := p
    clear p
    cases hC : Nat.beq xx.C C with
    | false => rw [hC] at pp; exact pp.elim
    | true =>
      rw [hC] at pp
      have hC := Nat.eq_of_beq_eq_true hC
      dsimp only at pp
      obtain ⟨a, q, z, i, e1, e2, e3, e4, e5, e6⟩ := hdlA_inv (fun e => by rw [e] at pp; exact pp : hdlA xx j fb hx τ ≠ .stuck)
      rw [e6] at pp
      unfold ckHa at hh
      rw [e1] at hh
      dsimp only at hh
      rw [e2] at hh
      dsimp only at hh
      rw [e3] at hh
      dsimp only at hh
      cases hs with
      | cons _ _ => exact ff hh
      | nil =>
      dsimp only at hh
      revert hh
      generalize vs b₀ = w
      obtain ⟨u, hu⟩ := w
      cases u <;> first | exact fun h => ff h | skip
      intro hh
      cases hu
      obtain ⟨hw, hpr⟩ := and2 hh
      rintro e h' tk' m' trk' frz' ⟨hr, B, dct, r', X, fl⟩ e' g'
      rcases fl with fl | ⟨f, i₀, t, dx, o, mA, l, hfx, rfl, rfl, hBdx, hN, hnb⟩
      · unfold fldI at e5; rw [fl] at e5; cases e5
      obtain ⟨hz, rfl⟩ := fldI_inv e5
      have he := (ok.fe hcm).1
      have hA : Φ.A.frames = some (Φ.fenv :: Φ.outer) := Around.frames_deeper ok.B.stack
      rw [he]
      refine note_x (s := { s with heap := h', toks := tk' }) hA rfl X.st X.ff X.ob fun h₁ k1 k2 k3 k4 => ?_
      refine trd_none k1 k2 k3 fun h₂ j1 j2 j3 j4 => ?_
      have up₂ : hr.UpToSlots h₂ := (X.up.trans k4).trans j4
      have r₂ := r'.land ok ht X j1 up₂
      obtain ⟨nm, qn, N, bs, bm, hdct, sn, sub, ab, col, dd, c0, c1, c2, c3, c5, newId, hCo, hbase, _⟩ := kts_cls ok.X hq
      obtain ⟨ob, hob, hobc, _⟩ := j3.there
      rw [hC] at hobc
      rw [← he]
      refine wpAny_handleBy_cons (codeAny_handlers_test (name_G (s := { s with heap := h₂, toks := tk' }) ok r₂ hk hd hv ?_)) (by intro q; cases q)
      refine wpAny_excMatches_sub_self (r₂.F.keep _ _ hCo) hob hobc hbase (codeAny_handlers_suite_as ?_)
      refine trd_none j1 j2 j3 fun h₃ i1 i2 i3 i4 => ?_
      have r₃ := r'.land ok ht X i1 (up₂.trans i4)
      obtain ⟨oe, heq, hec, hed, vsq, hef⟩ := i3.there
      obtain ⟨p1, p2⟩ := ok.lo j y hcm hj hly
      obtain ⟨hBL, oL, hoL, hnL⟩ := i2.mem (show Φ.L ∈ (Φ.fenv :: Φ.outer).filterMap (·.frame) from List.mem_cons_self ..)
      have heL : e ≠ Φ.L := fun q => by
        rw [q, hoL] at heq
        cases heq
        exact hnL vsq hef
      have hdL : dx ≠ Φ.L := fun q => by rw [q, hBL] at hBdx; cases hBdx
      have hde : dx ≠ e := fun q => by rw [q, X.ob.1] at hBdx; cases hBdx
      refine wpAny_storeName_local hly (by rw [p1]; exact r₃.F.ns) (fun h₄ hn₄ hs₄ => ?_) (by rw [ok.ek]; rfl)
      rw [p1] at hn₄ hs₄
      have r₄ := r₃.unL ok p2 hn₄ hs₄ (fun x hx => if_neg hx)
      have pk := fun Q E => pair_ok (E := E) (A := Φ.A.mark (some (.ref e))) (s := { s with heap := h₄, toks := tk' + 1 }) (Q := Q) ok hpr hz hly p1 r₄ (if_pos rfl) ((hs₄.2 e heL).trans heq) hec hed hef hde ((hs₄.2 dx hdL).trans (i1 _ _ hBdx)) hN hnb
      refine wpAny_execs_cons (wpAny_Assign_Name (pk _ _ fun h₅ tk₅ a₅ o₅ r₅ v₅ => ?_).2 (noSwap_eq (pk (fun _ _ => True) (fun _ _ => True) fun _ _ _ _ _ _ => trivial).1 _ _ _))
      refine s_store ok hw (s := { s with heap := h₅, toks := tk₅ }) r₅ v₅ fun h₆ tk₆ m₆ r₆ => wpAny_execs_nil ?_
      refine wpAny_bind (wpAny_bindName (wpAny_storeName_local hly (by rw [p1]; exact r₆.F.ns) (fun h₇ hn₇ hs₇ => ?_) (by rw [ok.ek]; rfl)))
      unfold unbindBehindTheSuite
      refine wpAny_onRaise (wpAny_unbindName_local hly hn₇ (if_pos rfl) (by rw [ok.ek]; rfl) fun h₈ u hn₈ hs₈ => ?_)
      rw [p1] at hs₇ hs₈ hn₈
      have r₈ := r₆.unL ok p2 hn₈ (hs₇.trans hs₈) (fun x hx => by rw [if_neg hx, if_neg hx])
      rw [unLo_again τ e4] at r₈
      exact PostS.trimmed (s := { s with heap := h₈, toks := tk₆ + 1 }) (tk := tk₆ + 1) (PostS.later (h₁ := h₈) (tk₁ := tk₆ + 1) pp e' (fun q hq => .tail _ (g' q hq)) hl) r₈
end
end Mine
namespace Mine
open PySem PySem.W PyProof.Rows PySem.Calls PySem.SeqAt

section
variable {G : Gl} {Φ : Fm} {d n : Nat} {P : Prg}

theorem noCpr_of {F : CkF} {c : CC} {e : Expr} {x : Ex} (h : ckX F c (vw e).1 x = true) (hx : ∀ a1 a2 a3 a4 a5 a6 a7, ckX F c (.cpr a1 a2 a3 a4 a5 a6 a7) x = false) (ho : ckX F c .other x = false) : noSwap e = true := by
  unfold noSwap
  revert h
  generalize (vw e).1 = v
  cases v <;> first | exact fun _ => rfl | exact fun h => ff ((hx _ _ _ _ _ _ _).symm.trans h) | exact fun h => ff (ho.symm.trans h)
theorem snd_asg (S : ∀ j, j ≤ n → Snd G P j) (ok : FmOk G Φ d) {k i : Nat} {nm : Str} {pn pos : Pos} {a : Ex} {e : Expr} (hw : isWr (Φ.cc G) nm i = true) (h : (ck k).e (Φ.cc G) e a = true) :
    SSt G Φ (.Assign [.Name nm pn] e pos) (fun fb => stStep P (ev P n) d fb (.asg i a)) := by
  have F := (S n (Nat.le_refl _)).fm d Φ ok
  cases hn : noSwap e with
  | true => exact ss_asg ok hw (noSwap_eq hn _ _ _) (F.ex _ _ ⟨k, h⟩)
  | false =>
    cases k with
    | zero => cases h
    | succ k =>
      have h' : ckX (ck k) (Φ.cc G) (vw e).1 a = true := h
      cases a with
      | cmpr j rng src tst elt =>
        obtain ⟨z, x, px, it, ifs, sc, q, rfl, rfl, hs, h1, h2, h3⟩ := ckCmpr_inv (vw e).2 h
        cases n with
        | zero => exact fun fb own σ s m trk frz Q E r hl p => p.elim
        | succ n =>
          have hs := compSc_sound hs
          refine ss_asgC (P := P) (n := n) ok hw (ckIter_inv h1) hs (fun e' he' => ((S n (Nat.le_succ _)).fm d Φ ok).ex _ _ he') (fun C j hj e ht hi => ?_) ((ckTst_inv h2).imp id fun ⟨t, a, b, _⟩ => ⟨t, a, b⟩) (fun C j hj => ((S j (Nat.le_of_lt (Nat.lt_succ_of_lt hj))).fm d _ (ok.inner hs)).ex _ _ ⟨k, h3⟩)
          rcases ckTst_inv h2 with ⟨a, _⟩ | ⟨t, a, b, h⟩
          · rw [ht] at a; cases a
          · rw [hi] at b; cases b; exact ((S j (Nat.le_of_lt (Nat.lt_succ_of_lt hj))).fm d _ (ok.inner hs)).tst _ _ ⟨k, h⟩
      | _ =>
        refine ss_asg ok hw (noSwap_eq ?_ _ _ _) (F.ex _ _ ⟨k + 1, h⟩)
        exact noCpr_of h' (fun _ _ _ _ _ _ _ => rfl) rfl

theorem snd_flt {k : Nat} {v : Vs} {e : Stmt} {a : Ex} {q : (Nat × Ex) × Nat × Nat} (F : SndF G P n d Φ) (ok : FmOk G Φ d) (hv : v.Ok e) (hq : fltOf a = some q) (hn : newOf a = none)
    (h : v.on (rse := fun x _ args _ _ => (!(Φ.cc G).cm && isTop (Φ.cc G) x q.1.1) && ((Φ.cc G).fx == some (q.1.1, q.2.1, q.2.2) && (ck k).l (Φ.cc G) args q.1.2)) = true) : SSt G Φ e (fun fb => stStep P (ev P n) d fb (.rse a)) := by
  cases v <;> first | exact ff h | skip
  cases hv
  obtain ⟨h1, h2⟩ := and2 h
  obtain ⟨⟨a1, a2⟩, a3, a4⟩ := isTop_inv (and2 h1).2
  obtain ⟨h3, h4⟩ := and2 h2
  have h3 : G.fx.map (fun f => (f.D.C, f.ia, f.ib)) = some (q.1.1, q.2.1, q.2.2) := eq_of_beq h3
  cases hf : G.fx with
  | none => rw [hf] at h3; cases h3
  | some f =>
    rw [hf] at h3
    have h3 := Option.some.inj h3
    have e1 : f.D.C = q.1.1 := congrArg (·.1) h3
    have e2 : f.ia = q.2.1 := congrArg (·.2.1) h3
    have e3 : f.ib = q.2.2 := congrArg (·.2.2) h3
    intro fb own σ s m trk frz Q E r hl p
    have e : stStep P (ev P n) d fb (.rse a) σ = rseFlt d (ev P n d).exs a σ := by unfold stStep; dsimp only; rw [hn]
    dsimp only at p
    rw [e] at p
    unfold rseFlt at p
    rw [hq] at p
    dsimp only at p
    cases hb : Nat.ble 2 d with
    | false => rw [hb] at p; exact p.elim
    | true =>
      rw [hb] at p
      dsimp only at p
      rw [← e1, ← e2, ← e3] at p
      rw [← e1] at a3
      have hle := Nat.le_of_ble_eq_true hb
      obtain ⟨d', rfl⟩ : ∃ d', d = d' + 2 := ⟨d - 2, by omega⟩
      exact ss_flt hf ok a1 a2 a3 (stars_of k h4) (F.exs _ _ ⟨k, h4⟩) fb own σ s m trk frz Q E r hl p

theorem snd_st (hcl : ClssOk G P) (S : ∀ j, j ≤ n → Snd G P j) (ok : FmOk G Φ d) : ∀ e x, Ct (Φ.cc G) e x → SSt G Φ e (fun fb => stStep P (ev P n) d fb x) := by
  intro e x hc
  have F := (S n (Nat.le_refl _)).fm d Φ ok
  obtain ⟨k, hc⟩ := hc
  cases k with
  | zero => cases hc
  | succ k =>
  have lt : ∀ {j}, j < n → SndF G P j d Φ := fun hj => (S _ (Nat.le_of_lt hj)).fm d Φ ok
  have hc : ckSX (ck k).e (ck k).l (ckS k) (Φ.cc G) (vs e).1 x = true := hc
  revert hc
  generalize vs e = w
  obtain ⟨v, hv⟩ := w
  cases x with
  | expr a => cases v <;> first | exact fun h => ff h | exact fun h => hv ▸ ss_expr ok (and2 h).1 (F.ex _ _ ⟨k, (and2 h).2⟩)
  | asg i a => cases v <;> first | exact fun h => ff h | exact fun h => hv ▸ snd_asg S ok (and2 h).1 (and2 h).2
  | asgA o i a => cases v <;> first | exact fun h => ff h | exact fun h => hv ▸ ss_asgA ok hcl (eq_of_beq (and2 (and3 h).1).1) (and2 (and3 h).1).2 (F.ex _ _ ⟨k, (and3 h).2.2⟩) (F.ex _ _ ⟨k, (and3 h).2.1⟩)
  | ite t a b => cases v <;> first | exact fun h => ff h | exact fun h => hv ▸ ss_ite (F.tst _ _ ⟨k, (and3 h).1⟩) (F.sts _ _ ⟨k, (and3 h).2.1⟩) (F.sts _ _ ⟨k, (and3 h).2.2⟩)
  | whl t b => cases v <;> first | exact fun h => ff h | exact fun h => hv ▸ s_whl ok ((Bool.not_eq_true' _).mp (and3 h).1) (fun j hj => (lt hj).tst _ _ ⟨k, (and3 h).2.1⟩) (fun j hj => (lt hj).sts _ _ ⟨k, (and3 h).2.2⟩)
  | forS i rng a b => cases v <;> first | exact fun h => ff h | exact fun h => hv ▸ ss_for ok (and3 h).1 (ckIter_inv (and3 h).2.1) (fun e' he' => F.ex _ _ he') (fun j hj => (lt hj).sts _ _ ⟨k, (and3 h).2.2⟩)
  | ret a => cases v <;> first | exact fun h => ff h | exact fun h => hv ▸ ss_ret (F.ex _ _ ⟨k, h⟩)
  | ret0 => cases v <;> first | exact fun h => ff h | exact fun h => hv ▸ ss_ret0
  | pass => cases v <;> first | exact fun h => ff h | exact fun h => hv ▸ ss_pass
  | brk => cases v <;> first | exact fun h => ff h | exact fun h => hv ▸ ss_brk
  | cont => cases v <;> first | exact fun h => ff h | exact fun h => hv ▸ ss_cont
  | rse a =>
    cases a with
    | new C l => cases v <;> first | exact fun h => ff h | (intro h; cases hv; obtain ⟨h1, h2⟩ := and2 h; obtain ⟨⟨a1, a2⟩, a3, a4⟩ := isTop_inv (and2 h1).2; exact ss_rse (P := P) ok a1 a2 a3 (and2 h2).1 (stars_of k (and2 h2).2) (F.exs _ _ ⟨k, (and2 h2).2⟩))
    | att e' i =>
      intro h
      cases hq : fltOf (.att e' i) with
      | none =>
        intro fb own σ s m trk frz Q E r hl p
        have p : PostS G Φ own fb trk frz s (match fltOf (.att e' i) with | none => .stuck | some q => (match Nat.ble 2 d with | true => ((ev P n d).exs q.1.2 σ).bind fun vs σ => mkFlt q.1.1 q.2.1 q.2.2 vs σ | false => .stuck)) Q E := p
        rw [hq] at p; exact p.elim
      | some q =>
        have h : (match fltOf (.att e' i) with
          | some q => v.on (rse := fun x _ args _ _ => (!(Φ.cc G).cm && isTop (Φ.cc G) x q.1.1) && ((Φ.cc G).fx == some (q.1.1, q.2.1, q.2.2) && (ck k).l (Φ.cc G) args q.1.2))
          | none => false) = true := h
        rw [hq] at h
        exact snd_flt F ok hv hq rfl h
    | _ => exact fun _ fb own σ s m trk frz Q E r hl p => p.elim
  | tryC b C i hd =>
    cases v <;> first | exact fun h => ff h | skip
    rename_i tb tx tp nn h₀ hs th tq
    intro h
    cases hv
    obtain ⟨h1, h2⟩ := and2 h
    obtain ⟨h1, h3⟩ := and2 h1
    obtain ⟨t1, t2⟩ := and2 h1
    obtain ⟨h3, h4⟩ := and2 h3
    obtain ⟨⟨a1, a2⟩, a3, a4⟩ := isTop_inv h3
    obtain ⟨b1, b2, b3⟩ := and3 h2
    cases i with
    | none =>
      cases nn with
      | none => exact ss_try ok t1 ((Bool.not_eq_true' _).mp t2) a1 a2 a3 h4 (F.sts _ _ ⟨k, b2⟩) b3
      | some _ => exact ff b1
    | some j =>
      cases nn with
      | none => exact ff b1
      | some y => exact ss_tryA ok t1 ((Bool.not_eq_true' _).mp t2) a1 a2 a3 h4 (eq_of_beq (and2 b1).1) (eq_of_beq (and2 b1).2) (F.sts _ _ ⟨k, b2⟩) b3
  | _ => exact fun h => ff h

theorem snd_sts (hcl : ClssOk G P) (S : ∀ j, j ≤ n → Snd G P j) (ok : FmOk G Φ d) : ∀ e x, Cts (Φ.cc G) e x → SSts G Φ e (fun fb => (ev P (n + 1) d).sts fb x) := by
  intro e x hc
  have F := (S n (Nat.le_refl _)).fm d Φ ok
  obtain ⟨k, hc⟩ := hc
  cases k with
  | zero => cases hc
  | succ k =>
    have hc : ckSs (ckS k).s (ckS k).l (Φ.cc G) e x = true := hc
    cases x with
    | nil => cases e with
      | nil => exact ss_nil
      | cons _ _ => exact ff hc
    | cons a r => cases e with
      | nil => exact ff hc
      | cons e l => exact ss_cons (snd_st hcl S ok _ _ ⟨k, (and2 hc).1⟩) (F.sts _ _ ⟨k, (and2 hc).2⟩)
    | _ => exact ff hc

theorem snd (hfn : FnsOk G P) (hcl : ClssOk G P) (n : Nat) : Snd G P n := by
  induction n using Nat.strongRecOn with
  | ind n ih =>
    cases n with
    | zero =>
      refine ⟨fun d Φ ok => ⟨fun _ _ _ own σ s m trk frz Q E r p => p.elim, fun _ _ _ pos own σ s m trk frz Q E r p => p.elim, fun _ _ _ own σ s m trk frz Q E r p => p.elim, fun _ _ _ fb own σ s m trk frz Q E r hl p => p.elim⟩, fun d => ?_⟩
      intro Φ d₀ A ok hA hdp hun hh f vs vs' own σ s m trk frz R r hv p
      exact p.elim
    | succ n =>
      have S : ∀ j, j ≤ n → Snd G P j := fun j hj => ih j (Nat.lt_succ_of_le hj)
      refine ⟨fun d Φ ok => ⟨snd_ex hcl S ok, snd_exs (S n (Nat.le_refl _)) ok, snd_tst (S n (Nat.le_refl _)) ok, snd_sts hcl S ok⟩, fun d => ?_⟩
      cases d with
      | zero =>
        intro Φ d₀ A ok hA hdp hun hh f vs vs' own σ s m trk frz R r hv p
        exact p.elim
      | succ d => exact scall_step hfn fun Φ ok => ((S n (Nat.le_refl _)).fm d Φ ok).sts
end
end Mine
namespace Mine
open PySem PySem.W PyProof.Rows PySem.Calls PySem.SeqAt

theorem fmap_congr {α β : Type} {f g : α → Option β} : ∀ {l : List α}, (∀ a ∈ l, f a = g a) → l.filterMap f = l.filterMap g
  | [], _ => rfl
  | a :: l, h => by rw [List.filterMap_cons, List.filterMap_cons, h a (.head _), fmap_congr fun b hb => h b (.tail _ hb)]
theorem lookup_zipF : ∀ {ns : List Str} {vs : List Value}, ns.length = vs.length → ns.Nodup → ns.filterMap (fun n => ((ns.zip vs).lookup n).map (n, ·)) = ns.zip vs ∧ ∀ n ∈ ns, ((ns.zip vs).lookup n).isNone = false := by
  intro ns
  induction ns with
  | nil => intro vs h _; cases vs <;> simp_all
  | cons x r ih =>
    intro vs h nd
    cases vs with
    | nil => simp at h
    | cons v t =>
      have nd' := List.nodup_cons.mp nd
      obtain ⟨h1, h2⟩ := ih (vs := t) (by simpa using h) nd'.2
      have hne : ∀ n ∈ r, (n == x) = false := by
        intro n hn
        cases e : n == x with
        | false => rfl
        | true => rw [eq_of_beq e] at hn; exact absurd hn nd'.1
      constructor
      · rw [List.zip_cons_cons, List.filterMap_cons]
        simp only [List.lookup_cons_self, Option.map_some]
        congr 1
        refine Eq.trans (fmap_congr fun n hn => ?_) h1
        rw [List.lookup_cons, hne n hn]
      · intro n hn
        rw [List.zip_cons_cons, List.lookup_cons]
        cases e : n == x with
        | true => rfl
        | false =>
          rcases List.mem_cons.mp hn with rfl | hn
          · simp at e
          · exact h2 n hn

theorem bind_plain {fd : FuncData} {vals : List Value} (h1 : fd.params.posonlyargs = []) (h2 : fd.params.kwonlyargs = []) (h3 : fd.params.vararg = none) (h4 : fd.params.kwarg = none) (h5 : fd.defaults = .none) (nd : (fd.params.args.map (·.arg)).Nodup)
    (hl : vals.length = (fd.params.args.map (·.arg)).length) : bindArgs fd ⟨vals, []⟩ = pure ((fd.params.args.map (·.arg)).zip vals) := by
  have hz := lookup_zipF hl.symm nd
  have hm : ((fd.params.args.map (·.arg)).filter fun n => (((fd.params.args.map (·.arg)).zip vals).lookup n).isNone) = [] := by
    rw [List.filter_eq_nil_iff]
    intro n hn
    rw [hz.2 n hn]; simp
  unfold bindArgs
  simp only [h1, h2, h3, h4, h5, List.map_nil, List.nil_append, List.append_nil]
  have pb : ∀ {α β : Type} (a : α) (f : α → Sem β), ((pure a : Sem α) >>= f) = f a := fun a f => rfl
  have hsi : seqItems? Value.none = pure none := by kernel_rfl
  have hgt : ¬ vals.length > (fd.params.args.map (·.arg)).length := by omega
  simp only [hsi, List.forIn_nil, pb, Option.getD_none, List.length_nil, List.drop_nil, Nat.zero_sub, Nat.sub_zero, List.zip_nil_right, hgt, decide_false, Bool.false_and, Bool.false_eq_true, if_false, List.take_length, hm, List.isEmpty_nil, Bool.not_true, hz.1]

noncomputable def nodupS : List Str → Bool
  | [] => true
  | x :: r => !(r.any fun y => x == y) && nodupS r
theorem nodupS_sound : ∀ {l : List Str}, nodupS l = true → l.Nodup
  | [], _ => List.nodup_nil
  | x :: r, h => by
    simp only [nodupS, Bool.and_eq_true, Bool.not_eq_true', List.any_eq_false] at h
    refine List.nodup_cons.mpr ⟨fun hm => ?_, nodupS_sound h.2⟩
    exact h.1 x hm (by simp)

noncomputable def locsOf (sc : Scope) : List Str := sc.names.filterMap fun x => match x.2 with | .local => some x.1 | .cell => some x.1 | _ => none
noncomputable def eqS : List Str → List Str → Bool
  | [], [] => true
  | x :: r, y :: t => x == y && eqS r t
  | _, _ => false
theorem eqS_sound : ∀ {l r : List Str}, eqS l r = true → l = r
  | [], [], _ => rfl
  | [], _ :: _, h => by cases h
  | _ :: _, [], h => by cases h
  | x :: r, y :: t, h => by
    simp only [eqS, Bool.and_eq_true] at h
    rw [eq_of_beq h.1, eqS_sound h.2]
noncomputable def isFn (sc : Scope) : Bool := (match sc.kind with | .function => true | _ => false) && !sc.isCoroutine && !sc.isGenerator
theorem isFn_sound {sc : Scope} (h : isFn sc = true) : sc.kind = .function ∧ sc.isCoroutine = false ∧ sc.isGenerator = false := by
  simp only [isFn, Bool.and_eq_true, Bool.not_eq_true'] at h
  refine ⟨?_, h.1.2, h.2⟩
  cases hk : sc.kind <;> rw [hk] at h <;> first | rfl | exact absurd h.1.1 (by simp)
noncomputable def ccOf (K : Frag) (an : List Str) (fq : Option (Nat × Nat × Nat)) (scope : Scope) : CC := ⟨K, scope, locsOf scope, [], false, an, false, fq⟩
noncomputable def knows (c : CC) : Bool := c.ns.all fun x => isLoc c x || isCel c x
theorem knows_sound {c : CC} (h : knows c = true) : ∀ x ∈ c.ns, c.scope.names.lookup x = some .local ∨ c.scope.names.lookup x = some .cell := fun x hx => by
  have := List.all_eq_true.mp h x hx
  rw [Bool.or_eq_true] at this
  exact this.imp eq_of_beq eq_of_beq
noncomputable def plainPar (p : Arguments) : Bool := p.posonlyargs.isEmpty && p.kwonlyargs.isEmpty && p.vararg.isNone && p.kwarg.isNone

noncomputable def ckFn (K : Frag) (an : List Str) (fq : Option (Nat × Nat × Nat)) (n : Nat) (fd : Fd) (fn : FuncData) : Bool := match fn with
  | ⟨name, qual, params, .stmts body, scope, g, [], .none, _, _, _, _, cdv, _, b⟩ =>
    Nat.beq g mainGlobals && Nat.beq b builtinsNs && codeIn K cdv qual && plainPar params && isFn scope && nodupS (locsOf scope) && eqS (params.args.map (·.arg)) ((locsOf scope).take params.args.length) && knows (ccOf K an fq scope) && nodupS ((cellsFrom 0 scope.names []).map (·.1)) && Nat.beq params.args.length fd.npar && Nat.beq ((locsOf scope).length + 1) fd.nloc && (ckS n).l (ccOf K an fq scope) body fd.body
  | _ => false
noncomputable def ckF (K : Frag) (an : List Str) (fq : Option (Nat × Nat × Nat)) (n : Nat) (q : Nat × Fd) : Bool := match K.lookup q.1 with
  | some ⟨_, _, .func fn, _⟩ => ckFn K an fq n q.2 fn
  | _ => false

theorem ckF_sound {G : Gl} {n : Nat} {f : Addr} {fd : Fd} (h : ckF G.K G.an G.fq n (f, fd) = true) : ∃ W : FnW G f fd, FnOk G f fd W := by
  unfold ckF at h
  split at h
  · rename_i oc od fn osl ho
    unfold ckFn at h
    split at h
    · rename_i name qual params body scope g kV doc pm ann cdv ct b
      simp only [Bool.and_eq_true] at h
      obtain ⟨⟨⟨⟨⟨⟨⟨⟨⟨⟨⟨hg, hb⟩, hcd⟩, hp⟩, hf⟩, hnd⟩, he⟩, hkn⟩, hcn⟩, hnp⟩, hnl⟩, hl⟩ := h
      have hg := Nat.eq_of_beq_eq_true hg
      have hb := Nat.eq_of_beq_eq_true hb
      have hnp := Nat.eq_of_beq_eq_true hnp
      have hnl := Nat.eq_of_beq_eq_true hnl
      subst hg hb
      obtain ⟨f1, f2, f3⟩ := isFn_sound hf
      have he := eqS_sound he
      have hnd := nodupS_sound hnd
      simp only [plainPar, Bool.and_eq_true, List.isEmpty_iff, Option.isNone_iff_eq_none] at hp
      refine ⟨⟨name, qual, params, body, scope, .none, kV, doc, pm, cdv, ct, oc, ann, od, osl, locsOf scope⟩, ?_⟩
      have hlen : params.args.length ≤ (locsOf scope).length := by
        have := congrArg List.length he
        simp only [List.length_map, List.length_take] at this
        omega
      exact {
        at_ := ho
        code := hcd
        bind := fun vals hv => by
          have nd : (params.args.map (·.arg)).Nodup := by rw [he]; exact hnd.sublist (List.take_sublist _ _)
          have := bind_plain (fd := fnOf name qual params body scope .none kV doc pm ann cdv ct) (vals := vals) hp.1.1.1 hp.1.1.2 hp.1.2 hp.2 rfl nd (by rw [List.length_map]; show vals.length = params.args.length; rw [hnp]; exact hv)
          rw [this]
          show pure ((params.args.map (·.arg)).zip vals) = _
          rw [he, hnp]
        kind := f1
        co := f2
        gen := f3
        kn := knows_sound hkn
        cnd := nodupS_sound hcn
        len := hnl
        nd := hnd
        par := hnp ▸ hlen
        cts := ⟨n, hl⟩ }
    · cases h
  · cases h
theorem lookN_mem {α : Type} {k : Nat} {v : α} : ∀ {l : List (Nat × α)}, lookN k l = some v → (k, v) ∈ l
  | q :: r, h => by
    unfold lookN at h
    cases hq : Nat.beq q.1 k with
    | true => rw [hq] at h; cases h; rw [← Nat.eq_of_beq_eq_true hq]; exact .head _
    | false => rw [hq] at h; exact .tail _ (lookN_mem h)
theorem fnsOk_of {G : Gl} {P : Prg} (n : Nat) (h : P.fns.all (ckF G.K G.an G.fq n) = true) : FnsOk G P := by
  intro f fd e
  exact ckF_sound (List.all_eq_true.mp h _ (lookN_mem e))

noncomputable def ckFld (K : Frag) (an : List Str) (C : Nat) (i : Nat) : Bool := match an[i]? with
  | some x => takerIn K C x == some none && (match findIn K (.ref C) x with | some attr => noGet K attr | none => false)
  | none => true
noncomputable def ckMth (K : Frag) (an : List Str) (C : Nat) (q : Nat × Nat) : Bool := match an[q.1]? with
  | some x => findIn K (.ref C) x == some (some (.ref q.2)) && (typeIn K (.ref q.2) == some (.type "function") && keepIn K (.ref q.2))
  | none => true
noncomputable def ckCls (K : Frag) (an : List Str) (q : Nat × Cls) : Bool := (makesIn K q.1 && (findIn K (.ref q.1) "__init__" == some (some (.ref q.2.init)) && typeIn K (.ref q.2.init) == some (.type "function"))) && ((plainGet K q.1 "" && (findIn K (.ref q.1) "__setattr__" == some (some (.builtin "object.__setattr__")) && plainOver K q.1)) && (hasDictIn K q.1 && (q.2.flds.all (ckFld K an q.1) && q.2.mths.all (ckMth K an q.1))))
theorem hasN_mem {k : Nat} : ∀ {l : List Nat}, hasN k l = true → k ∈ l
  | a :: r, h => by
    unfold hasN at h
    rw [Bool.or_eq_true] at h
    rcases h with h | h
    · rw [Nat.eq_of_beq_eq_true h]; exact .head _
    · exact .tail _ (hasN_mem h)
theorem clssOk_of {G : Gl} {P : Prg} (h : P.cls.all (ckCls G.K G.an) = true) : ClssOk G P := by
  intro C k e
  have h := List.all_eq_true.mp h _ (lookN_mem e)
  obtain ⟨h1, h2⟩ := and2 h
  obtain ⟨a1, a2, a3⟩ := and3 h1
  obtain ⟨h2, h3⟩ := and2 h2
  obtain ⟨b1, b2, b3⟩ := and3 h2
  obtain ⟨c1, c2, c3⟩ := and3 h3
  refine ⟨a1, eq_of_beq a2, eq_of_beq a3, b1, eq_of_beq b2, b3, c1, fun i x hi hx => ?_, fun i f x hi hx => ?_⟩
  · have := List.all_eq_true.mp c2 _ (hasN_mem hi)
    unfold ckFld at this
    rw [hx] at this
    obtain ⟨d1, d2⟩ := and2 this
    refine ⟨eq_of_beq d1, ?_⟩
    cases hf : findIn G.K (.ref C) x with
    | none => rw [hf] at d2; cases d2
    | some attr => rw [hf] at d2; exact ⟨attr, rfl, d2⟩
  · have := List.all_eq_true.mp c3 _ (lookN_mem hi)
    unfold ckMth at this
    rw [hx] at this
    obtain ⟨d1, d2, d3⟩ := and3 this
    exact ⟨eq_of_beq d1, eq_of_beq d2, d3⟩
end Mine
namespace Mine
open PySem PySem.W PyProof.Rows PySem.Calls PySem.SeqAt

theorem ints_rel {an : List Str} {hb : Heap} {frz : Led} {vs : List Value} {zs : List Int} (h : IntsAre vs zs) : PRels an hb frz (zs.map .int) vs := by
  induction h with
  | nil => exact .nil
  | cons => rename_i ih; exact .cons (.int _ _) ih

noncomputable def locals (c : CC) : Bool := c.ns.all fun x => isLoc c x
theorem locals_sound {c : CC} (h : locals c = true) : ∀ x ∈ c.ns, c.scope.names.lookup x = some .local := fun x hx => eq_of_beq (List.all_eq_true.mp h x hx)

theorem law_join {prog : Program} {w : World} {K : Frag} {p : Program} {loose : List Str} {mean : ExcName → Option Value} {mg mb : Str → Option Value} {s₁ : Shared} {an : List Str} {P : Prg} {ns : List Str} {x : Str} {body : List Stmt} {scope : Scope} {qual : Str} {fa a : Addr} {cdv : Value} {vs : List Value} {zs : List Int} {h₁ : Heap} {tk : Nat} {base : Heap} {lb : Sx}
    {R : Result → Shared → Prop} {E : Value → Shared → Prop} (n N d k : Nat) {fx : Option (FltP prog K an)} {fq : Option (Nat × Nat × Nat)} (hfq : fx.map (fun f => (f.D.C, f.ia, f.ib)) = fq)
    (T : Top p loose mean mg mb s₁.heap) (K0 : Below callerA base [] s₁.heap) (KX : K.In s₁.heap) (hL : s₁.heap.IsList a vs.toArray) (hI : IntsAre vs zs)
    (F : Fr s₁.heap s₁.heap.objs.size h₁ (fun y => List.lookup y [(x, Value.ref a)].reverse))
    (hd : d ≤ 400) (hns : ns[0]? = some x) (hnd : nodupS ns = true) (hk : isFn scope = true) (hkn : locals ⟨K, scope, ns, [], false, an, true, fq⟩ = true)
    (hna : nodupS an = true) (hfn : P.fns.all (ckF K an fq n) = true) (hcl : P.cls.all (ckCls K an) = true) (hc : (ckS n).l ⟨K, scope, ns, [], false, an, true, fq⟩ body lb = true)
    {σ' : St} (hσ : (ev P N d).sts 0 lb ⟨[], 0, some (.p (.lst (zs.map .int))) :: List.replicate k none⟩ = .ok (.ret (.p (.bool true))) σ')
    (hR : ∀ h' tk', (∀ b o, s₁.heap.get? b = some o → h'.get? b = some o) → R (.ok (.ret (.bool true))) { s₁ with heap := h', toks := tk' }) :
    wpAny (model prog w) (callerA.deeper (envOf qual scope s₁.heap.objs.size fa cdv)) (execs body (envOf qual scope s₁.heap.objs.size fa cdv)) (fun fl s' => R (.ok (.ret (match fl with | .ret v => v | _ => .none))) s') E { s₁ with heap := h₁, toks := tk } := by
  subst hfq
  have kl := locals_sound hkn
  have ok : FmOk ⟨prog, w, K, p, loose, mean, mg, mb, s₁.heap, an, fx⟩ ⟨callerA, base, s₁.heap, [], s₁.heap.objs.size, fa, qual, scope, cdv, [], envOf qual scope s₁.heap.objs.size fa cdv, s₁.heap.objs.size, plOf scope [] ns, ns, [], false, true⟩ d :=
    ⟨K0, KX, T, fun _ _ e => e, KX, (isFn_sound hk).1, by
      show callerA.depth + 1 + d < recursionLimit
      have : callerA.depth = 301 := by decide +kernel
      have : recursionLimit = 1000 := by decide +kernel
      omega, by
      show callerA.units + 3 + 20 * (d + 1) < cLine
      have : callerA.units = 4 := rfl
      have : cLine = 9900 := by decide +kernel
      omega, rfl, plOf_nodup (cs := []) List.nodup_nil (nodupS_sound hnd) (fun x hx => .inl (kl x hx)), nodupS_sound hna, (isFn_sound hk).1, rfl, rfl, fun i x _ hx hl => ⟨rfl, plOf_loc hx hl⟩, (fun i x hx hl => by
        have h1 : scope.names.lookup x = some .local := kl x (List.mem_of_getElem? hx)
        have h2 : scope.names.lookup x = some .cell := hl
        rw [h1] at h2; cases h2), fun _ _ h _ _ => (by cases h), fun _ => ⟨rfl, rfl, by simp [plOf], plOf_cmp⟩, fun _ => rfl⟩
  have S := (snd (fnsOk_of (G := ⟨prog, w, K, p, loose, mean, mg, mb, s₁.heap, an, fx⟩) (P := P) n hfn) (clssOk_of (G := ⟨prog, w, K, p, loose, mean, mg, mb, s₁.heap, an, fx⟩) (P := P) hcl) N).fm d _ ok
  have hs := S.sts body lb ⟨n, hc⟩
  obtain ⟨o, ho, hcl, nn, hdt⟩ := hL
  refine hs 0 [] ⟨[], 0, some (.p (.lst (zs.map .int))) :: List.replicate k none⟩ _ ⟨fun y => List.lookup y [(x, Value.ref a)].reverse, []⟩ [] [] _ E ⟨F, News.nil, by simp, .nil, fun _ _ e => by simp at e, Nat.le_refl _, fun i v e => ?_, fun b hb => ?_⟩ (Nat.zero_le _) ?_
  · cases i with
    | zero =>
      cases e
      refine ⟨.loc x, .ref a, plOf_loc hns (kl x (List.mem_of_getElem? hns)), ?_, .p (.lst (.inl ho) hcl hdt (ints_rel hI))⟩
      show List.lookup x [(x, Value.ref a)] = _
      simp
    | succ i =>
      simp only [List.getElem?_cons_succ, List.getElem?_replicate] at e
      split at e <;> cases e
  · obtain ⟨y, hy, e⟩ := List.mem_map.mp hb
    have := kl y hy
    dsimp only at this
    simp only [this] at e
    cases e
  · dsimp only; rw [hσ]
    intro fl h' tk' m' trk' frz' r _ _ v
    cases v with
    | ret v => cases v with | p v => cases v; exact hR h' tk' r.F.keep
end Mine
namespace Mine
open PySem PySem.W PyProof.Rows PySem.Calls PySem.SeqAt

/-- more fuel, no other answer -/
noncomputable def Out.le {α : Type} (o o' : Out α) : Prop := o = .stuck ∨ o = o'
theorem Out.le.refl {α : Type} (o : Out α) : o.le o := .inr rfl
theorem Out.le.bind {α β : Type} {o o' : Out α} {k k' : α → St → Out β} (h : o.le o') (hk : ∀ a σ, (k a σ).le (k' a σ)) : (o.bind k).le (o'.bind k') := by
  rcases h with rfl | rfl
  · exact .inl rfl
  · cases o with
    | ok a σ => exact hk a σ
    | exc x σ => exact .inr rfl
    | stuck => exact .inl rfl

theorem Out.le.noX {α : Type} {o o' : Out α} (h : o.le o') : o.noX.le o'.noX := by
  rcases h with rfl | rfl
  · exact .inl rfl
  · exact .inr rfl

structure Le (v w : Ev) : Prop where
  ex : ∀ e σ, (v.ex e σ).le (w.ex e σ)
  exs : ∀ e σ, (v.exs e σ).le (w.exs e σ)
  tst : ∀ e σ, (v.tst e σ).le (w.tst e σ)
  sts : ∀ fb e σ, (v.sts fb e σ).le (w.sts fb e σ)
  call : ∀ f l σ, (v.call f l σ).le (w.call f l σ)
  whl : ∀ fb c b σ, (v.whl fb c b σ).le (w.whl fb c b σ)
  forS : ∀ fb x y k b σ, (v.forS fb x y k b σ).le (w.forS fb x y k b σ)
  cmp : ∀ i S k l c e σ, (v.cmp i S k l c e σ).le (w.cmp i S k l c e σ)

section
variable {P : Prg} {ih jh : Nat → Ev} {d : Nat}
theorem after_le {go go' : St → Out Fl} (h : ∀ σ, (go σ).le (go' σ)) (f : Fl) (σ : St) : (afterT go f σ).le (afterT go' f σ) := by
  cases f
  · exact h σ
  · exact .refl _
  · exact h σ
  · exact .refl _
theorem then_le {go go' : St → Out Fl} (h : ∀ σ, (go σ).le (go' σ)) (f : Fl) (σ : St) : (andThen go f σ).le (andThen go' f σ) := by
  cases f
  · exact h σ
  all_goals exact .refl _
theorem ofO_le {α : Type} {o : Option α} {k k' : α → St → Out AV} (h : ∀ a σ, (k a σ).le (k' a σ)) (σ : St) : (ofO o k σ).le (ofO o k' σ) := by
  cases o with
  | none => exact .refl _
  | some a => exact h a σ
theorem stStep_le (F : ∀ d, Le (ih d) (jh d)) (fb : Nat) (s : Sx) (σ : St) : (stStep P ih d fb s σ).le (stStep P jh d fb s σ) := by
  have F := F d
  cases s with
  | expr e => exact (F.ex e σ).bind fun _ _ => .refl _
  | asg i e => exact (F.ex e σ).bind fun _ _ => .refl _
  | asgA o n e => exact (F.ex e σ).bind fun v σ => (F.ex o σ).bind fun x σ => .refl _
  | ite c a b => exact (F.tst c σ).bind fun r σ => by cases r <;> exact F.sts _ _ _
  | whl c b => exact F.whl fb c b σ
  | forS x rng e b =>
    exact (F.ex e σ).bind fun v σ => by
      cases srcOf σ rng v with
      | none => exact .refl _
      | some S => exact F.forS _ _ _ _ _ _
  | ret e => exact (F.ex e σ).bind fun _ _ => .refl _
  | rse e =>
    unfold stStep
    dsimp only
    cases newOf e with
    | none =>
      show (rseFlt d (ih d).exs e σ).le (rseFlt d (jh d).exs e σ)
      unfold rseFlt
      cases fltOf e with
      | none => exact .refl _
      | some q =>
        dsimp only
        cases Nat.ble 2 d with
        | true => exact (F.exs _ σ).bind fun _ _ => .refl _
        | false => exact .refl _
    | some q => exact (F.exs _ σ).bind fun _ _ => .refl _
  | tryC b C i h =>
    show (tryStep fb ((ih d).sts fb b σ) C i h).le (tryStep fb ((jh d).sts fb b σ) C i h)
    rcases F.sts fb b σ with e | e
    · rw [e]; exact .inl rfl
    · rw [e]; exact .refl _
  | _ => exact .refl _

theorem opt_le (F : ∀ d, Le (ih d) (jh d)) (e : Ex) (σ : St) : (optStep ih d e σ).le (optStep jh d e σ) := by
  unfold optStep
  cases isNil e with
  | true => exact .refl _
  | false => exact ((F d).ex e σ).bind fun _ _ => .refl _
theorem cmpTst_le (F : ∀ d, Le (ih d) (jh d)) (e : Ex) (σ : St) : (cmpTst ih d e σ).le (cmpTst jh d e σ) := by
  unfold cmpTst
  cases isNil e with
  | true => exact .refl _
  | false => exact (F d).tst e σ

theorem new_le (F : ∀ d, Le (ih d) (jh d)) (C : Nat) (vs : List AV) (d : Nat) (σ : St) : (newStep P ih C vs d σ).le (newStep P jh C vs d σ) := by
  cases d with
  | zero => exact .refl _
  | succ d =>
    unfold newStep
    dsimp only
    cases lookN C P.cls with
    | none => exact .refl _
    | some k => exact ((F d).call _ _ _).bind fun _ _ => .refl _
theorem exStep_le (F : ∀ d, Le (ih d) (jh d)) (e : Ex) (σ : St) : (exStep P ih d e σ).le (exStep P jh d e σ) := by
  have G := F
  have F := F d
  cases e with
  | bin o a b => exact (F.ex a σ).bind fun x σ => (F.ex b σ).bind fun y σ => .refl _
  | cmp o a b => exact (F.ex a σ).bind fun x σ => (F.ex b σ).bind fun y σ => .refl _
  | not a => exact (F.ex a σ).bind fun x σ => .refl _
  | neg a => exact (F.ex a σ).bind fun x σ => .refl _
  | and a b => exact (F.ex a σ).bind fun x σ => ofO_le (fun r σ => by cases r; exact .refl _; exact F.ex _ _) σ
  | or a b => exact (F.ex a σ).bind fun x σ => ofO_le (fun r σ => by cases r; exact F.ex _ _; exact .refl _) σ
  | ite c a b => exact (F.tst c σ).bind fun r σ => by cases r <;> exact F.ex _ _
  | tup l => exact (F.exs l σ).bind fun x σ => .refl _
  | lst l => exact (F.exs l σ).bind fun x σ => .refl _
  | idx a b => exact (F.ex a σ).bind fun x σ => (F.ex b σ).bind fun y σ => .refl _
  | sli e lo hi => exact (F.ex e σ).bind fun x σ => (opt_le G lo σ).bind fun y σ => (opt_le G hi σ).bind fun z σ => .refl _
  | callf f l => exact (F.exs l σ).bind fun x σ => F.call _ _ _
  | bf b l => exact (F.exs l σ).bind fun x σ => .refl _
  | meth e n b l =>
    exact (F.ex e σ).bind fun x σ => by
      cases b with
      | none => exact ofO_le (fun f σ => (F.exs l σ).bind fun y σ => F.call _ _ _) σ
      | some b =>
        dsimp only
        cases recvOk b x σ with
        | true => exact (F.exs l σ).bind fun y σ => .refl _
        | false => exact .refl _
  | att e n => exact (F.ex e σ).bind fun x σ => .refl _
  | new C l => exact (F.exs l σ).bind fun vs σ => new_le G C vs d σ
  | cmpr i rng src tst z => exact (F.ex src σ).bind fun v σ => ofO_le (fun S σ => (F.cmp _ _ _ _ _ _ _).bind fun _ _ => .refl _) σ
  | _ => exact .refl _

theorem le_step (F : ∀ d, Le (ih d) (jh d)) : Le ⟨exStep P ih d, exsStep ih d, tstStep ih d, stsStep P ih d, callStep P ih d, whlStep ih d, forStep ih d, cmpStep ih d⟩ ⟨exStep P jh d, exsStep jh d, tstStep jh d, stsStep P jh d, callStep P jh d, whlStep jh d, forStep jh d, cmpStep jh d⟩ := by
  have G := F
  have F := F d
  refine ⟨exStep_le (P := P) G, fun e σ => ?_, fun e σ => ?_, fun fb e σ => ?_, fun f l σ => ?_, fun fb c b σ => ?_, fun fb x S k b σ => ?_, fun i S k l c e σ => ?_⟩
  · cases e with
    | cons e r => exact (F.ex e σ).bind fun x σ => (F.exs r σ).bind fun y σ => .refl _
    | _ => exact .refl _
  · cases e with
    | not a => exact (F.tst a σ).bind fun x σ => .refl _
    | and a b =>
      exact (F.tst a σ).bind fun r σ => by
        cases r
        · exact .refl _
        · exact F.tst _ _
    | or a b =>
      exact (F.tst a σ).bind fun r σ => by
        cases r
        · exact F.tst _ _
        · exact .refl _
    | ite _ _ _ => exact .refl _
    | _ => exact (F.ex _ σ).bind fun x σ => .refl _
  · cases e with
    | cons s r => exact (stStep_le G fb s σ).bind fun f σ => then_le (fun σ => F.sts _ _ _) f σ
    | _ => exact .refl _
  · cases d with
    | zero => exact .refl _
    | succ d =>
      show (callStep P ih (d + 1) f l σ).le (callStep P jh (d + 1) f l σ)
      rw [callStep, callStep]
      cases lookN f P.fns with
      | none => exact .refl _
      | some fd =>
        dsimp only
        cases Nat.beq l.length fd.npar with
        | false => exact .refl _
        | true =>
          dsimp only
          rcases (G d).sts σ.hp.length fd.body ⟨σ.hp, σ.hw, l.map some ++ List.replicate (fd.nloc - fd.npar) none⟩ with h | h
          · exact .inl (by rw [h])
          · exact .inr (by rw [h])
  · exact (F.tst c σ).bind fun r σ => by
      cases r
      · exact .refl _
      · exact (F.sts fb b σ).bind fun f σ => after_le (fun σ => F.whl _ _ _ _) f σ
  · show (forStep ih d fb x S k b σ).le (forStep jh d fb x S k b σ)
    unfold forStep
    cases srcAt S k σ with
    | none => exact .refl _
    | some o => cases o with
      | none => exact .refl _
      | some y => exact (F.sts fb b _).bind fun f σ => after_le (fun σ => F.forS _ _ _ _ _ _) f σ
  · show (cmpStep ih d i S k l c e σ).le (cmpStep jh d i S k l c e σ)
    unfold cmpStep
    cases srcAt S k σ with
    | none => exact .refl _
    | some o => cases o with
      | none => exact .refl _
      | some y =>
        exact (cmpTst_le G c _).noX.bind fun b σ => by
          cases b
          · exact F.cmp _ _ _ _ _ _ _
          · exact (F.ex e σ).noX.bind fun x σ => by
              cases okLen l.length with
              | true => exact F.cmp _ _ _ _ _ _ _
              | false => exact .refl _
end
theorem ev_le (P : Prg) : ∀ n d, Le (ev P n d) (ev P (n + 1) d)
  | 0, d => ⟨fun _ _ => .inl rfl, fun _ _ => .inl rfl, fun _ _ => .inl rfl, fun _ _ _ => .inl rfl, fun _ _ _ => .inl rfl, fun _ _ _ _ => .inl rfl, fun _ _ _ _ _ _ => .inl rfl, fun _ _ _ _ _ _ _ => .inl rfl⟩
  | n + 1, d => le_step (ev_le P n)

/-- from some fuel on -/
noncomputable def Evt {α : Type} (f : Nat → Out α) (r : Out α) : Prop := ∃ n, ∀ k, n ≤ k → f k = r

theorem Evt.const {α : Type} (r : Out α) : Evt (fun _ => r) r := ⟨0, fun _ _ => rfl⟩
theorem Evt.of {α : Type} {f : Nat → Out α} (hf : ∀ k, (f k).le (f (k + 1))) {r : Out α} (n : Nat) (h : f n = r) (hr : r ≠ .stuck) : Evt f r := by
  refine ⟨n, fun k hk => ?_⟩
  induction hk with
  | refl => exact h
  | step hk ih =>
    rcases hf _ with e | e
    · exact absurd (ih.symm.trans e) hr
    · rw [← e]; exact ih
theorem Evt.bind {α β : Type} {f : Nat → Out α} {g : Nat → α → St → Out β} {a : α} {σ : St} {r : Out β} (h : Evt f (.ok a σ)) (k : Evt (fun n => g n a σ) r) : Evt (fun n => (f n).bind (g n)) r := by
  obtain ⟨n, h⟩ := h
  obtain ⟨m, k⟩ := k
  refine ⟨n + m, fun j hj => ?_⟩
  show (f j).bind (g j) = r
  rw [h j (by omega)]
  exact k j (by omega)
theorem Evt.shift {α : Type} {f g : Nat → Out α} {r : Out α} (e : ∀ n, g (n + 1) = f n) (h : Evt f r) : Evt g r := by
  obtain ⟨n, h⟩ := h
  refine ⟨n + 1, fun j hj => ?_⟩
  cases j with
  | zero => omega
  | succ j => rw [e]; exact h j (by omega)
theorem Evt.congr {α : Type} {f g : Nat → Out α} {r : Out α} (e : ∀ n, g n = f n) (h : Evt f r) : Evt g r := by
  obtain ⟨n, h⟩ := h
  exact ⟨n, fun j hj => (e j).trans (h j hj)⟩
end Mine
namespace Mine
open PySem PySem.W PyProof.Rows PySem.Calls PySem.SeqAt

noncomputable def EX (P : Prg) (d : Nat) (e : Ex) (σ : St) (r : Out AV) : Prop := Evt (fun n => (ev P n d).ex e σ) r
noncomputable def XS (P : Prg) (d : Nat) (e : Ex) (σ : St) (r : Out (List AV)) : Prop := Evt (fun n => (ev P n d).exs e σ) r
noncomputable def TS (P : Prg) (d : Nat) (e : Ex) (σ : St) (r : Out Bool) : Prop := Evt (fun n => (ev P n d).tst e σ) r
noncomputable def SX (P : Prg) (d fb : Nat) (e : Sx) (σ : St) (r : Out Fl) : Prop := Evt (fun n => (ev P n d).sts fb e σ) r
noncomputable def ST (P : Prg) (d fb : Nat) (e : Sx) (σ : St) (r : Out Fl) : Prop := Evt (fun n => stStep P (ev P n) d fb e σ) r
noncomputable def CL (P : Prg) (d : Nat) (f : Nat) (l : List AV) (σ : St) (r : Out AV) : Prop := Evt (fun n => (ev P n d).call f l σ) r
noncomputable def WH (P : Prg) (d fb : Nat) (c : Ex) (b : Sx) (σ : St) (r : Out Fl) : Prop := Evt (fun n => (ev P n d).whl fb c b σ) r
noncomputable def FS (P : Prg) (d fb : Nat) (x : Nat) (S : Src) (k : Nat) (b : Sx) (σ : St) (r : Out Fl) : Prop := Evt (fun n => (ev P n d).forS fb x S k b σ) r
/-- a comprehension's turns -/
noncomputable def CP (P : Prg) (d : Nat) (i : Nat) (S : Src) (k : Nat) (acc : List AV) (c e : Ex) (σ : St) (r : Out (List AV)) : Prop := Evt (fun n => (ev P n d).cmp i S k acc c e σ) r

section
variable {P : Prg} {d fb : Nat} {σ σ₁ σ₂ : St}

theorem Evt.ofO {α : Type} {o : Option α} {a : α} {k : Nat → α → St → Out AV} {r : Out AV} (h : o = some a) (e : Evt (fun n => k n a σ) r) : Evt (fun n => ofO o (k n) σ) r := by subst h; exact e
theorem EX.cst {v : PV} : EX P d (.cst v) σ (.ok (.p v) σ) := Evt.shift (fun _ => rfl) (Evt.const _)
theorem EX.loc {i : Nat} {v : AV} (h : σ.lo[i]? = some (some v)) : EX P d (.loc i) σ (.ok v σ) := Evt.shift (fun n => (by show (match σ.lo[i]? with | some o => Mine.ofO o .ok σ | none => .stuck) = _; rw [h]; rfl)) (Evt.const _)
theorem EX.binE {o : Bop} {a b : Ex} {x y : AV} {r : Out AV} (h1 : EX P d a σ (.ok x σ₁)) (h2 : EX P d b σ₁ (.ok y σ₂)) (e : binop o x y σ₂ = r) : EX P d (.bin o a b) σ r :=
  Evt.shift (fun _ => rfl) (Evt.bind h1 (Evt.bind h2 (Evt.congr (fun _ => e) (Evt.const _))))
theorem EX.cmp {o : Cop} {a b : Ex} {x y : AV} {r : Bool} (h1 : EX P d a σ (.ok x σ₁)) (h2 : EX P d b σ₁ (.ok y σ₂)) (h : cmpop o x y σ₂ = some r) : EX P d (.cmp o a b) σ (.ok (.p (.bool r)) σ₂) :=
  Evt.shift (fun _ => rfl) (Evt.bind h1 (Evt.bind h2 (Evt.ofO h (Evt.const _))))
theorem EX.idx {a b : Ex} {x y v : AV} (h1 : EX P d a σ (.ok x σ₁)) (h2 : EX P d b σ₁ (.ok y σ₂)) (h : idxOf σ₂ x y = some v) : EX P d (.idx a b) σ (.ok v σ₂) :=
  Evt.shift (fun _ => rfl) (Evt.bind h1 (Evt.bind h2 (Evt.ofO h (Evt.const _))))
noncomputable def OP (P : Prg) (d : Nat) (e : Ex) (σ : St) (r : Out (Option AV)) : Prop := Evt (fun n => optStep (ev P n) d e σ) r
theorem EX.callf {f : Nat} {l : Ex} {vs : List AV} {r : Out AV} (h1 : XS P d l σ (.ok vs σ₁)) (h2 : CL P d f vs σ₁ r) : EX P d (.callf f l) σ r := Evt.shift (fun _ => rfl) (Evt.bind h1 h2)
theorem EX.bf {b : BF} {l : Ex} {vs : List AV} {r : Out AV} (h1 : XS P d l σ (.ok vs σ₁)) (h : bfun b vs σ₁ = r) : EX P d (.bf b l) σ r := Evt.shift (fun _ => rfl) (Evt.bind h1 (Evt.congr (fun n => h) (Evt.const _)))

theorem XS.nil : XS P d .nil σ (.ok [] σ) := Evt.shift (fun _ => rfl) (Evt.const _)
theorem XS.cons {e r : Ex} {v : AV} {vs : List AV} (h1 : EX P d e σ (.ok v σ₁)) (h2 : XS P d r σ₁ (.ok vs σ₂)) : XS P d (.cons e r) σ (.ok (v :: vs) σ₂) :=
  Evt.shift (fun _ => rfl) (Evt.bind h1 (Evt.bind h2 (Evt.const _)))
theorem XS.one {e : Ex} {v : AV} (h1 : EX P d e σ (.ok v σ₁)) : XS P d (.cons e .nil) σ (.ok [v] σ₁) := XS.cons h1 XS.nil

noncomputable def plainT : Ex → Bool
  | .not _ => false
  | .and _ _ => false
  | .or _ _ => false
  | .ite _ _ _ => false
  | _ => true
theorem TS.plain {e : Ex} {x : AV} {r : Bool} (hp : plainT e = true) (h1 : EX P d e σ (.ok x σ₁)) (h : truth x σ₁ = some r) : TS P d e σ (.ok r σ₁) := by
  have : Evt (fun n => tstP (ev P n) d e σ) (.ok r σ₁) := Evt.bind h1 (Evt.congr (fun n => by rw [h]) (Evt.const _))
  refine Evt.shift (fun n => ?_) this
  cases e <;> first | rfl | exact ff hp
theorem TS.cmp {o : Cop} {a b : Ex} {x y : AV} {r : Bool} (h1 : EX P d a σ (.ok x σ₁)) (h2 : EX P d b σ₁ (.ok y σ₂)) (h : cmpop o x y σ₂ = some r) : TS P d (.cmp o a b) σ (.ok r σ₂) := TS.plain rfl (EX.cmp h1 h2 h) rfl

theorem SX.nil : SX P d fb .nil σ (.ok .next σ) := Evt.shift (fun _ => rfl) (Evt.const _)
theorem SX.next {s l : Sx} {r : Out Fl} (h1 : ST P d fb s σ (.ok .next σ₁)) (h2 : SX P d fb l σ₁ r) : SX P d fb (.cons s l) σ r := Evt.shift (fun _ => rfl) (Evt.bind h1 h2)
theorem SX.stopR {s l : Sx} {v : AV} (h1 : ST P d fb s σ (.ok (.ret v) σ₁)) : SX P d fb (.cons s l) σ (.ok (.ret v) σ₁) := Evt.shift (fun _ => rfl) (Evt.bind h1 (Evt.const _))
theorem ST.asg {i : Nat} {e : Ex} {v : AV} {τ : St} (h : EX P d e σ (.ok v σ₁)) (q : trim fb (setLo i v σ₁) = τ) : ST P d fb (.asg i e) σ (.ok .next τ) := q ▸ Evt.bind h (Evt.const _)
theorem ST.ite {c : Ex} {a b : Sx} {t : Bool} {τ : St} {r : Out Fl} (h : TS P d c σ (.ok t σ₁)) (q : trim fb σ₁ = τ) (k : SX P d fb (match t with | true => a | false => b) τ r) : ST P d fb (.ite c a b) σ r := Evt.bind h (by subst q; cases t <;> exact k)
theorem ST.ret {e : Ex} {v : AV} (h : EX P d e σ (.ok v σ₁)) : ST P d fb (.ret e) σ (.ok (.ret v) σ₁) := Evt.bind h (Evt.const _)
theorem SX.ret {e : Ex} {l : Sx} {τ : St} {v : AV} (h : EX P d e σ (.ok v τ)) : SX P d fb (.cons (.ret e) l) σ (.ok (.ret v) τ) := SX.stopR (ST.ret h)

noncomputable def CT (P : Prg) (d : Nat) (e : Ex) (σ : St) (r : Out Bool) : Prop := Evt (fun n => cmpTst (ev P n) d e σ) r
noncomputable def cmpGo (ih : Nat → Ev) (d : Nat) (i : Nat) (S : Src) (k : Nat) (acc : List AV) (c e : Ex) (y : AV) (σ : St) : Out (List AV) := (cmpTst ih d c (setLo i y σ)).noX.bind fun b σ => match b with
      | false => (ih d).cmp i S (k + 1) acc c e σ
      | true => ((ih d).ex e σ).noX.bind fun x σ => (match okLen acc.length with
        | true => (ih d).cmp i S (k + 1) (acc ++ [x]) c e σ
        | false => .stuck)
theorem CL.fn {f : Nat} {fd : Fd} (hf : lookN f P.fns = some fd) {args : List AV} (ha : Nat.beq args.length fd.npar = true) {fl : Fl} {r : Out AV} (h : SX P d σ.hp.length fd.body ⟨σ.hp, σ.hw, args.map some ++ List.replicate (fd.nloc - fd.npar) none⟩ (.ok fl σ₁)) (hr : retSt σ.hp.length σ.lo (flVal fl) σ₁ = r) : CL P (d + 1) f args σ r := by
  obtain ⟨n, h⟩ := h
  refine ⟨n + 1, fun k hk => ?_⟩
  cases k with
  | zero => omega
  | succ k =>
    show callStep P (ev P k) (d + 1) f args σ = r
    rw [callStep, hf]
    dsimp only
    rw [ha]
    dsimp only
    have h' := h k (by omega)
    dsimp only at h'
    rw [h']
    exact hr

theorem trim_full (h : σ.hp.length ≤ fb) : trim fb σ = σ := by
  unfold trim
  rw [List.take_of_length_le (Nat.le_trans h (Nat.le_max_left _ _))]
theorem ret_pure {hp : List AO} {hw : Nat} {lo lo' : List (Option AV)} {v : PV} (h : hw ≤ hp.length) : retSt hp.length lo (.p v) ⟨hp, hw, lo'⟩ = .ok (.p v) ⟨hp, hw, lo⟩ := by
  have hw : Nat.ble hw hp.length = true := Nat.ble_eq_true_of_le h
  unfold retSt
  rw [hw]
  show Out.ok _ ⟨hp.take hp.length, _, _⟩ = _
  rw [List.take_length]
theorem CL.pure {f : Nat} {fd : Fd} {args : List AV} {hp : List AO} {hw : Nat} {lo lo' : List (Option AV)} {v : PV} (hf : lookN f P.fns = some fd) (ha : Nat.beq args.length fd.npar = true)
    (h : SX P d hp.length fd.body ⟨hp, hw, args.map some ++ List.replicate (fd.nloc - fd.npar) none⟩ (.ok (.ret (.p v)) ⟨hp, hw, lo'⟩)) (hh : hw ≤ hp.length) : CL P (d + 1) f args ⟨hp, hw, lo⟩ (.ok (.p v) ⟨hp, hw, lo⟩) :=
  CL.fn hf ha h (ret_pure hh)
end

theorem okLen_of {n : Nat} (h : n < 1000000) : okLen n = true := by rw [okLen, Nat.blt_eq]; exact h
noncomputable def scr (zs : List Int) : AV := .p (.lst (zs.map .int))
theorem fmod_range (a : Int) {b : Int} (hb : 0 < b) : 0 ≤ Int.fmod a b ∧ Int.fmod a b < b := ⟨Int.fmod_nonneg_of_pos a hb, Int.fmod_lt_of_pos a hb⟩
end Mine
namespace Mine
open PySem PySem.W PyProof.Rows PySem.Calls PySem.SeqAt

noncomputable def lawSt (zs : List Int) (k : Nat) : St := ⟨[], 0, some (scr zs) :: List.replicate k none⟩
noncomputable def LawTrue (P : Prg) (d k : Nat) (lb : Sx) (zs : List Int) : Prop := ∃ σ, SX P d 0 lb (lawSt zs k) (.ok (.ret (.p (.bool true))) σ)

theorem law_go {prog : Program} {w : World} {K : Frag} {p : Program} {loose : List Str} {mean : ExcName → Option Value} {mg mb : Str → Option Value} {s₁ : Shared} {ns : List Str} {x : Str} {body : List Stmt} {scope : Scope} {qual : Str} {fa a : Addr} {cdv : Value} {vs : List Value} {zs : List Int} {h₁ : Heap} {tk : Nat} {base : Heap}
    {R : Result → Shared → Prop} {E : Value → Shared → Prop} {an : List Str} {P : Prg} {lb : Sx} {d k n : Nat} {fx : Option (FltP prog K an)} {fq : Option (Nat × Nat × Nat)} (hfq : fx.map (fun f => (f.D.C, f.ia, f.ib)) = fq)
    (hlaw : ∀ zs : List Int, zs.length ≤ 63 → LawTrue P d k lb zs) (hd : d ≤ 400) (hna : nodupS an = true)
    (hfn : P.fns.all (ckF K an fq n) = true) (hcl : P.cls.all (ckCls K an) = true)
    (T : Top p loose mean mg mb s₁.heap) (K0 : Below callerA base [] s₁.heap) (KX : K.In s₁.heap) (hL : s₁.heap.IsList a vs.toArray) (hI : IntsAre vs zs) (hz : ¬ ((63 : Nat) : Int) < (zs.length : Int))
    (F : Fr s₁.heap s₁.heap.objs.size h₁ (fun y => List.lookup y [(x, Value.ref a)].reverse))
    (hns : ns[0]? = some x) (hnd : nodupS ns = true) (hk : isFn scope = true) (hkn : locals ⟨K, scope, ns, [], false, an, true, fq⟩ = true) (hc : (ckS n).l ⟨K, scope, ns, [], false, an, true, fq⟩ body lb = true)
    (hR : ∀ h' tk', (∀ b o, s₁.heap.get? b = some o → h'.get? b = some o) → R (.ok (.ret (.bool true))) { s₁ with heap := h', toks := tk' }) :
    wpAny (model prog w) (callerA.deeper (envOf qual scope s₁.heap.objs.size fa cdv)) (execs body (envOf qual scope s₁.heap.objs.size fa cdv)) (fun fl s' => R (.ok (.ret (match fl with | .ret v => v | _ => .none))) s') E { s₁ with heap := h₁, toks := tk } := by
  obtain ⟨σ, N, h⟩ := hlaw zs (by omega)
  exact law_join n N d k hfq T K0 KX hL hI F hd hns hnd hk hkn hna hfn hcl hc (h N (Nat.le_refl _)) hR

theorem good_true {l : OpenLaw} {cl : Str → Option Addr} {mean : ExcName → Option Value} {args : List WData} {s₁ : Shared} {h' : Heap} {tk' : Nat} (hg : s₁.gens = #[]) (hk : ∀ b o, s₁.heap.get? b = some o → h'.get? b = some o)
    (hr : ∀ cls, l.row.claim.raises args cls = false) (hp : l.row.claim.post args (.bool true) args = true) : GoodW l.row.claim cl mean args s₁ (.ok (.ret (.bool true))) { s₁ with heap := h', toks := tk' } :=
  ⟨.inl ⟨.bool true, .bool true, [], rfl, hr, .bool true, hp, fun _ => ⟨List.nodup_nil, fun _ h => nomatch h⟩⟩, hk, rfl, hg⟩
end Mine
namespace Mine
open PySem PySem.W PyProof.Rows PySem.Calls PySem.SeqAt

noncomputable def fCell : Fd := ⟨2, 3, (.cons (.ite (.cmp .lt (.loc 1) (.bf .len (.cons (.loc 0) .nil))) (.cons (.ret (.idx (.loc 0) (.loc 1))) .nil) .nil) (.cons (.ret (.cst (.int 0))) .nil))⟩
noncomputable def at0 (zs : List Int) (k : Nat) : Int := zs.getD k 0
noncomputable def gaveT : Out Fl → Bool
  | .ok (.ret (.p (.bool true))) _ => true
  | _ => false
theorem gaveT_inv {o : Out Fl} (h : gaveT o = true) : ∃ σ, o = .ok (.ret (.p (.bool true))) σ := by
  unfold gaveT at h
  split at h
  · exact ⟨_, rfl⟩
  · cases h
theorem SX.gave {P : Prg} {d fb : Nat} {b : Sx} {σ : St} (n : Nat) (h : gaveT ((ev P n d).sts fb b σ) = true) : ∃ τ, SX P d fb b σ (.ok (.ret (.p (.bool true))) τ) := by
  obtain ⟨τ, e⟩ := gaveT_inv h
  exact ⟨τ, Evt.of (fun k => (ev_le P k d).sts fb b σ) n e (by intro h; cases h)⟩
section
variable {P : Prg} {d fb i : Nat} {σ τ : St} {a b l : Sx} {c e : Ex} {v : AV} {r : Out Fl}
theorem SX.set (h : EX P d e σ (.ok v σ)) (hf : σ.hp.length ≤ fb) (k : SX P d fb l (setLo i v σ) r) : SX P d fb (.cons (.asg i e) l) σ r := SX.next (ST.asg h (trim_full hf)) k
theorem mod_at {x y : Int} (h : y ≠ 0) : binop .mod (.p (.int x)) (.p (.int y)) σ = .ok (.p (.int (Int.fmod x y))) σ := by
  show (match (match decide (y = 0) with | true => none | false => some (Int.fmod x y)) with | some c => Out.ok (AV.p (.int c)) σ | none => .stuck) = _
  rw [decide_eq_false h]
end
theorem len_scr {zs : List Int} (hz : zs.length ≤ 63) (σ : St) : bfun .len [scr zs] σ = .ok (.p (.int zs.length)) σ := by
  have h1 : okLen ((zs.map PV.int).map AV.p).length = true := okLen_of (by rw [List.length_map, List.length_map]; omega)
  show (match okLen ((zs.map PV.int).map AV.p).length with | true => Out.ok (AV.p (.int ((zs.map PV.int).map AV.p).length)) σ | false => .stuck) = _
  rw [h1, List.length_map, List.length_map]
theorem okInt_of {k : Int} (h0 : 0 ≤ k) (h1 : k < 1000000) : okInt k = true := by
  unfold okInt
  rw [decide_eq_true h0, decide_eq_true h1]; rfl
theorem idx_lst {l : List PV} {k : Int} {σ : St} (h : okInt k = true) : idxOf σ (.p (.lst l)) (.p (.int k)) = (l.map AV.p)[k.toNat]? := by
  show (match okInt k with | false => none | true => (l.map AV.p)[k.toNat]?) = _
  rw [h]
theorem cell_idx {zs : List Int} {k : Nat} (hk : k < 1000) (hlt : k < zs.length) (σ : St) : idxOf σ (scr zs) (.p (.int k)) = some (.p (.int (at0 zs k))) := by
  have ho : okInt (k : Int) = true := okInt_of (by omega) (by omega)
  have e : at0 zs k = zs[k] := by
    unfold at0
    rw [List.getD, List.getElem?_eq_getElem hlt]; rfl
  unfold scr
  rw [idx_lst ho, Int.toNat_natCast, List.getElem?_map, List.getElem?_map, List.getElem?_eq_getElem hlt, e]
  rfl
theorem cell_call {P : Prg} {f : Nat} (hf : lookN f P.fns = some fCell) {zs : List Int} (hz : zs.length ≤ 63) (k : Nat) (hk : k < 1000) (d : Nat) {hp : List AO} {hw : Nat} {lo : List (Option AV)} (hh : hw ≤ hp.length) :
    CL P (d + 1) f [scr zs, .p (.int k)] ⟨hp, hw, lo⟩ (.ok (.p (.int (at0 zs k))) ⟨hp, hw, lo⟩) := by
  have t : TS P d (.cmp .lt (.loc 1) (.bf .len (.cons (.loc 0) .nil))) ⟨hp, hw, [some (scr zs), some (.p (.int k)), none]⟩ (.ok (decide ((k : Int) < (zs.length : Int))) ⟨hp, hw, [some (scr zs), some (.p (.int k)), none]⟩) := TS.cmp (EX.loc rfl) (EX.bf (XS.one (EX.loc rfl)) (len_scr hz _)) rfl
  by_cases hlt : k < zs.length
  · have e : decide ((k : Int) < (zs.length : Int)) = true := by simpa using hlt
    rw [e] at t
    exact CL.pure hf rfl (SX.stopR (ST.ite t (trim_full (Nat.le_refl _)) (SX.ret (EX.idx (EX.loc rfl) (EX.loc rfl) (cell_idx hk hlt _))))) hh
  · have e : decide ((k : Int) < (zs.length : Int)) = false := by simpa using hlt
    have h0 : at0 zs k = 0 := by
      unfold at0
      rw [List.getD, List.getElem?_eq_none (Nat.le_of_not_lt hlt)]; rfl
    rw [e] at t
    rw [h0]
    exact CL.pure hf rfl (SX.next (ST.ite t (trim_full (Nat.le_refl _)) SX.nil) (SX.ret EX.cst)) hh
/-- a draw: the k-th item modulo n -/
theorem draw {P : Prg} {f : Nat} (hf : lookN f P.fns = some fCell) {zs : List Int} (hz : zs.length ≤ 63) (k : Nat) (hk : k < 1000) (n : Int) (hn : n ≠ 0) (d : Nat) {hp : List AO} {hw : Nat} {lo : List (Option AV)} (hs : lo[0]? = some (some (scr zs))) (hh : hw ≤ hp.length) :
    EX P (d + 1) (.bin .mod (.callf f (.cons (.loc 0) (.cons (.cst (.int k)) .nil))) (.cst (.int n))) ⟨hp, hw, lo⟩ (.ok (.p (.int (Int.fmod (at0 zs k) n))) ⟨hp, hw, lo⟩) :=
  EX.binE (EX.callf (XS.cons (EX.loc hs) (XS.one EX.cst)) (cell_call hf hz k hk d hh)) EX.cst (mod_at hn)
end Mine
namespace Mine
open PySem PySem.W PyProof.Rows PySem.Calls PySem.SeqAt
/-- Token.__init__ -/
noncomputable def f59 : Fd := ⟨5, 6, (.cons (.asgA (.loc 0) 0 (.loc 1)) (.cons (.asgA (.loc 0) 1 (.loc 2)) (.cons (.asgA (.loc 0) 2 (.loc 3)) (.cons (.asgA (.loc 0) 3 (.loc 4)) .nil))))⟩
/-- scan -/
noncomputable def f108 : Fd := ⟨1, 7, (.cons (.asg 1 (.lst .nil)) (.cons (.asg 2 (.cst (.int 0))) (.cons (.whl (.cst (.bool true)) (.cons (.asg 3 (.loc 2)) (.cons (.asg 2 (.callf 115 (.cons (.loc 0) (.cons (.loc 2) .nil)))) (.cons (.asg 4 (.sli (.loc 0) (.loc 3) (.loc 2))) (.cons (.ite (.cmp .ge (.loc 2) (.bf .len (.cons (.loc 0) .nil))) (.cons (.expr (.meth (.loc 1) 8 (some .append) (.cons (.new 97 (.cons (.cst (.str [69, 78, 68])) (.cons (.cst (.str [])) (.cons (.loc 4) (.cons (.loc 2) .nil))))) .nil))) (.cons (.ret (.loc 1)) .nil)) .nil) (.cons (.asg 5 (.callf 122 (.cons (.loc 0) (.cons (.loc 2) .nil)))) (.cons (.expr (.meth (.loc 1) 8 (some .append) (.cons (.new 97 (.cons (.idx (.loc 5) (.cst (.int 0))) (.cons (.sli (.loc 0) (.loc 2) (.idx (.loc 5) (.cst (.int 1)))) (.cons (.loc 4) (.cons (.loc 2) .nil))))) .nil))) (.cons (.asg 2 (.idx (.loc 5) (.cst (.int 1)))) .nil)))))))) .nil)))⟩
/-- _behind_blanks -/
noncomputable def f115 : Fd := ⟨2, 3, (.cons (.whl (.cmp .lt (.loc 1) (.bf .len (.cons (.loc 0) .nil))) (.cons (.ite (.cmp .isin (.idx (.loc 0) (.loc 1)) (.cst (.str [32, 9, 13, 10]))) (.cons (.asg 1 (.bin .add (.loc 1) (.cst (.int 1)))) .nil) (.cons (.ite (.meth (.loc 0) 9 (some .startswith) (.cons (.cst (.str [47, 47])) (.cons (.loc 1) .nil))) (.cons (.whl (.and (.cmp .lt (.loc 1) (.bf .len (.cons (.loc 0) .nil))) (.cmp .ne (.idx (.loc 0) (.loc 1)) (.cst (.str [10])))) (.cons (.asg 1 (.bin .add (.loc 1) (.cst (.int 1)))) .nil)) .nil) (.cons (.ret (.loc 1)) .nil)) .nil)) .nil)) (.cons (.ret (.loc 1)) .nil))⟩
/-- _token_end -/
noncomputable def f122 : Fd := ⟨2, 5, (.cons (.asg 2 (.idx (.loc 0) (.loc 1))) (.cons (.ite (.cmp .isin (.loc 2) (.cst (.str [97, 98, 99, 100, 101, 102, 103, 104, 105, 106, 107, 108, 109, 110, 111, 112, 113, 114, 115, 116, 117, 118, 119, 120, 121, 122, 65, 66, 67, 68, 69, 70, 71, 72, 73, 74, 75, 76, 77, 78, 79, 80, 81, 82, 83, 84, 85, 86, 87, 88, 89, 90, 95]))) (.cons (.asg 3 (.loc 1)) (.cons (.whl (.and (.cmp .lt (.loc 3) (.bf .len (.cons (.loc 0) .nil))) (.or (.cmp .isin (.idx (.loc 0) (.loc 3)) (.cst (.str [97, 98, 99, 100, 101, 102, 103, 104, 105, 106, 107, 108, 109, 110, 111, 112, 113, 114, 115, 116, 117, 118, 119, 120, 121, 122, 65, 66, 67, 68, 69, 70, 71, 72, 73, 74, 75, 76, 77, 78, 79, 80, 81, 82, 83, 84, 85, 86, 87, 88, 89, 90, 95]))) (.cmp .isin (.idx (.loc 0) (.loc 3)) (.cst (.str [48, 49, 50, 51, 52, 53, 54, 55, 56, 57]))))) (.cons (.asg 3 (.bin .add (.loc 3) (.cst (.int 1)))) .nil)) (.cons (.ite (.cmp .isin (.sli (.loc 0) (.loc 1) (.loc 3)) (.cst (.tup [(.str [97, 110, 100]), (.str [97, 115]), (.str [101, 108, 115, 101]), (.str [102, 97, 108, 115, 101]), (.str [102, 117, 110]), (.str [105, 102]), (.str [105, 109, 112, 111, 114, 116]), (.str [108, 101, 116]), (.str [110, 101, 119]), (.str [110, 105, 108]), (.str [110, 111, 116]), (.str [111, 110, 108, 121]), (.str [111, 114]), (.str [114, 101, 99, 111, 114, 100]), (.str [114, 101, 116, 117, 114, 110]), (.str [116, 114, 117, 101]), (.str [119, 104, 105, 108, 101])]))) (.cons (.ret (.tup (.cons (.cst (.str [87, 79, 82, 68])) (.cons (.loc 3) .nil)))) .nil) .nil) (.cons (.ret (.tup (.cons (.cst (.str [78, 65, 77, 69])) (.cons (.loc 3) .nil)))) .nil)))) .nil) (.cons (.ite (.cmp .isin (.loc 2) (.cst (.str [48, 49, 50, 51, 52, 53, 54, 55, 56, 57]))) (.cons (.asg 3 (.loc 1)) (.cons (.whl (.and (.cmp .lt (.loc 3) (.bf .len (.cons (.loc 0) .nil))) (.cmp .isin (.idx (.loc 0) (.loc 3)) (.cst (.str [48, 49, 50, 51, 52, 53, 54, 55, 56, 57])))) (.cons (.asg 3 (.bin .add (.loc 3) (.cst (.int 1)))) .nil)) (.cons (.ret (.tup (.cons (.cst (.str [78, 85, 77, 66, 69, 82])) (.cons (.loc 3) .nil)))) .nil))) .nil) (.cons (.ite (.cmp .eq (.loc 2) (.cst (.str [34]))) (.cons (.ret (.tup (.cons (.cst (.str [84, 69, 88, 84])) (.cons (.callf 129 (.cons (.loc 0) (.cons (.loc 1) .nil))) .nil)))) .nil) .nil) (.cons (.ite (.cmp .isin (.sli (.loc 0) (.loc 1) (.bin .add (.loc 1) (.cst (.int 2)))) (.cst (.tup [(.str [61, 61]), (.str [33, 61]), (.str [60, 61]), (.str [62, 61])]))) (.cons (.ret (.tup (.cons (.cst (.str [83, 73, 71, 78])) (.cons (.bin .add (.loc 1) (.cst (.int 2))) .nil)))) .nil) .nil) (.cons (.ite (.cmp .isin (.loc 2) (.cst (.str [40, 41, 123, 125, 91, 93, 43, 45, 42, 47, 37, 60, 62, 61, 46, 44, 59, 58]))) (.cons (.ret (.tup (.cons (.cst (.str [83, 73, 71, 78])) (.cons (.bin .add (.loc 1) (.cst (.int 1))) .nil)))) .nil) .nil) (.cons (.rse (.att (.att (.new 40 (.cons (.cst (.str [97, 32, 115, 116, 114, 97, 110, 103, 101, 32, 115, 105, 103, 110])) (.cons (.loc 1) .nil))) 3) 10)) .nil)))))))⟩
noncomputable def restB : Sx := (.cons (.asg 4 (.tup .nil)) (.cons (.tryC (.cons (.asg 4 (.tup (.cons (.cst (.str [116, 111, 107, 101, 110, 115])) (.cons (.bf .len (.cons (.callf 108 (.cons (.bin .add (.bin .add (.bin .mul (.cst (.str [97, 98, 32])) (.loc 1)) (.bin .mul (.cst (.str [32])) (.loc 2))) (.bin .mul (.cst (.str [64])) (.loc 3))) .nil)) .nil)) .nil)))) .nil) 40 (some 5) (.cons (.asg 4 (.tup (.cons (.cst (.str [83, 121, 110, 116, 97, 120, 70, 97, 117, 108, 116])) (.cons (.att (.loc 5) 3) .nil)))) .nil)) (.cons (.ret (.cmp .eq (.loc 4) (.idx (.lst (.cons (.tup (.cons (.cst (.str [116, 111, 107, 101, 110, 115])) (.cons (.bin .add (.loc 1) (.cst (.int 1))) .nil))) (.cons (.tup (.cons (.cst (.str [83, 121, 110, 116, 97, 120, 70, 97, 117, 108, 116])) (.cons (.bin .add (.bin .mul (.cst (.int 3)) (.loc 1)) (.loc 2)) .nil))) .nil))) (.loc 3)))) .nil)))
/-- law -/
noncomputable def lawB : Sx := (.cons (.asg 1 (.bin .mod (.callf 136 (.cons (.loc 0) (.cons (.cst (.int 0)) .nil))) (.cst (.int 5)))) (.cons (.asg 2 (.bin .mod (.callf 136 (.cons (.loc 0) (.cons (.cst (.int 1)) .nil))) (.cst (.int 5)))) (.cons (.asg 3 (.bin .mod (.callf 136 (.cons (.loc 0) (.cons (.cst (.int 2)) .nil))) (.cst (.int 2)))) restB)))
noncomputable def prg : Prg := ⟨[(59, f59), (108, f108), (115, f115), (122, f122), (136, fCell)], [(97, ⟨59, [0, 1, 2, 3], []⟩)], []⟩
noncomputable def attrs : List Str := ["kind", "text", "lead", "place", "end", "whole", "is_sign", "is_word", "append", "startswith", "message"]
noncomputable def stAt (v : AV) (a b c : Nat) : St := ⟨[], 0, [some v, some (.p (.int a)), some (.p (.int b)), some (.p (.int c)), none, none, none]⟩
noncomputable def runOk (zs : List Int) (a : Nat) : Bool := (List.range 5).all fun b => (List.range 2).all fun c => gaveT ((ev prg 60 20).sts 0 restB (stAt (scr zs) a b c))
theorem run0 (zs : List Int) : runOk zs 0 = true := by kernel_rfl
theorem run1 (zs : List Int) : runOk zs 1 = true := by kernel_rfl
theorem run2 (zs : List Int) : runOk zs 2 = true := by kernel_rfl
theorem run3 (zs : List Int) : runOk zs 3 = true := by kernel_rfl
theorem run4 (zs : List Int) : runOk zs 4 = true := by kernel_rfl
theorem run_all (zs : List Int) {a b c : Nat} (ha : a < 5) (hb : b < 5) (hc : c < 2) : ∃ τ, SX prg 20 0 restB (stAt (scr zs) a b c) (.ok (.ret (.p (.bool true))) τ) := by
  have h : runOk zs a = true := by
    have : a = 0 ∨ a = 1 ∨ a = 2 ∨ a = 3 ∨ a = 4 := by omega
    rcases this with rfl | rfl | rfl | rfl | rfl
    · exact run0 zs
    · exact run1 zs
    · exact run2 zs
    · exact run3 zs
    · exact run4 zs
  exact SX.gave 60 (List.all_eq_true.mp (List.all_eq_true.mp h b (List.mem_range.mpr hb)) c (List.mem_range.mpr hc))
theorem law_true (zs : List Int) (hz : zs.length ≤ 63) : LawTrue prg 20 6 lawB zs := by
  have r1 := fmod_range (at0 zs 0) (b := 5) (by decide)
  obtain ⟨a, ha⟩ := Int.eq_ofNat_of_zero_le r1.1
  have r2 := fmod_range (at0 zs 1) (b := 5) (by decide)
  obtain ⟨b, hb⟩ := Int.eq_ofNat_of_zero_le r2.1
  have r3 := fmod_range (at0 zs 2) (b := 2) (by decide)
  obtain ⟨c, hc⟩ := Int.eq_ofNat_of_zero_le r3.1
  obtain ⟨τ, fin⟩ := run_all zs (a := a) (b := b) (c := c) (by omega) (by omega) (by omega)
  refine ⟨τ, SX.set (v := .p (.int a)) ?_ (Nat.le_refl _) (SX.set (v := .p (.int b)) ?_ (Nat.le_refl _) (SX.set (v := .p (.int c)) ?_ (Nat.le_refl _) fin))⟩
  · rw [← ha]; exact draw rfl hz 0 (by decide) 5 (by decide) 19 rfl (Nat.le_refl _)
  · rw [← hb]; exact draw rfl hz 1 (by decide) 5 (by decide) 19 rfl (Nat.le_refl _)
  · rw [← hc]; exact draw rfl hz 2 (by decide) 2 (by decide) 19 rfl (Nat.le_refl _)
end Mine
namespace Mine
open PySem PySem.W PyProof.Rows PySem.Calls PySem.SeqAt
theorem lkM : typeLookup (.type "ValueError") "message" = pure none := by rw [typeLookup_type, builtinLookup_eq_fast]; kernel_rfl
theorem lkP : typeLookup (.type "ValueError") "place" = pure none := by rw [typeLookup_type, builtinLookup_eq_fast]; kernel_rfl
theorem noCell_of {l : List (Str × NameKind)} (h : (l.all fun x => match x.2 with | .cell => false | _ => true) = true) : ∀ x ∈ l, x.2 ≠ .cell := fun x hx e => by
  have := List.all_eq_true.mp h x hx
  rw [e] at this
  cases this
theorem ne_ofB {a b : Str} (h : (a == b) = false) : a ≠ b := fun e => by rw [e, beq_self_eq_true] at h; cases h
theorem law_goF {prog : Program} {w : World} {K : Frag} {p : Program} {loose : List Str} {mean : ExcName → Option Value} {mg mb : Str → Option Value} {s₁ : Shared} {ns : List Str} {x : Str} {body : List Stmt} {scope : Scope} {qual : Str} {fa a : Addr} {cdv : Value} {vs : List Value} {zs : List Int} {h₁ : Heap} {tk : Nat} {base : Heap}
    {R : Result → Shared → Prop} {E : Value → Shared → Prop} {an : List Str} {P : Prg} {lb : Sx} {d k n : Nat} {C ia ib : Nat}
    (hlaw : ∀ zs : List Int, zs.length ≤ 63 → LawTrue P d k lb zs) (hd : d ≤ 400) (hna : nodupS an = true)
    (hfn : P.fns.all (ckF K an (some (C, ia, ib)) n) = true) (hcl : P.cls.all (ckCls K an) = true)
    (T : Top p loose mean mg mb s₁.heap) (K0 : Below callerA base [] s₁.heap) (KX : K.In s₁.heap) (hfx : ∃ D : FltD prog K, FltOk D ∧ D.at_.length < 1000 ∧ D.C = C ∧ an[ia]? = some D.na ∧ an[ib]? = some D.nb) (hL : s₁.heap.IsList a vs.toArray) (hI : IntsAre vs zs) (hz : ¬ ((63 : Nat) : Int) < (zs.length : Int))
    (F : Fr s₁.heap s₁.heap.objs.size h₁ (fun y => List.lookup y [(x, Value.ref a)].reverse))
    (hns : ns[0]? = some x) (hnd : nodupS ns = true) (hk : isFn scope = true) (hkn : locals ⟨K, scope, ns, [], false, an, true, some (C, ia, ib)⟩ = true) (hc : (ckS n).l ⟨K, scope, ns, [], false, an, true, some (C, ia, ib)⟩ body lb = true)
    (hR : ∀ h' tk', (∀ b o, s₁.heap.get? b = some o → h'.get? b = some o) → R (.ok (.ret (.bool true))) { s₁ with heap := h', toks := tk' }) :
    wpAny (model prog w) (callerA.deeper (envOf qual scope s₁.heap.objs.size fa cdv)) (execs body (envOf qual scope s₁.heap.objs.size fa cdv)) (fun fl s' => R (.ok (.ret (match fl with | .ret v => v | _ => .none))) s') E { s₁ with heap := h₁, toks := tk } := by
  obtain ⟨D, ok, h1, h2, h3, h4⟩ := hfx
  exact law_go (fx := some ⟨D, ok, h1, ia, ib, h3, h4⟩) (fq := some (C, ia, ib)) (by show some (D.C, ia, ib) = _; rw [h2]) hlaw hd hna hfn hcl T K0 KX hL hI hz F hns hnd hk hkn hc hR
end Mine
open PySem PySem.W PyProof.Rows
noncomputable def Mine.main06.tw12723827014147813812 : Unit := ()
noncomputable def Mine.main06.tw14399782108924710350 : Unit := ()
noncomputable def Mine.main06.tw13897976415078214666 : Unit := ()
noncomputable def Mine.main06.tw6687906680246936564 : Unit := ()
noncomputable def Mine.main06.tw16688570391721442111 : Unit := ()
noncomputable def Mine.main06.tw18120257189480401341 : Unit := ()
noncomputable def Mine.main06.tw8676292016057525346 : Unit := ()
noncomputable def Mine.main06.tw6002791729320735241 : Unit := ()
noncomputable def Mine.main06.tw1654952126469458860 : Unit := ()
noncomputable def Mine.main06.tw4456247326785885273 : Unit := ()
noncomputable def Mine.main06.tw9708838944683464748 : Unit := ()
noncomputable def Mine.main06.tw14032651116307223226 : Unit := ()
noncomputable def Mine.main06.tw6232528010686066143 : Unit := ()
noncomputable def Mine.main06.tw6426061438430969612 : Unit := ()
noncomputable def Mine.main06.tw11383696218763273071 : Unit := ()
noncomputable def Mine.main06.tw15774430417435429159 : Unit := ()
noncomputable def Mine.main06.tw6065385042503695311 : Unit := ()
noncomputable def Mine.main06.tw8151513125898199199 : Unit := ()
noncomputable def Mine.main06.tw3654578617007712035 : Unit := ()
noncomputable def Mine.main06.tw1952368755260916392 : Unit := ()
noncomputable def Mine.main06.tw6195394443033651554 : Unit := ()
noncomputable def Mine.main06.tw17638782926877419865 : Unit := ()
noncomputable def Mine.main06.tw16129904743034380631 : Unit := ()
noncomputable def Mine.main06.tw11713866749102868511 : Unit := ()
noncomputable def Mine.main06.tw16949700442841360781 : Unit := ()
noncomputable def Mine.main06.tw11292788850047268780 : Unit := ()
namespace Mine
open PySem PySem.W PyProof.Rows PySem.Calls PySem.SeqAt
set_option Elab.async true in
set_option maxHeartbeats 0 in
theorem main06 : PySem.Challenge.rw_ui0501_06.Holds := by
  w_on; o_law; k_head; (case hw => w_witness2)
  k_go0
  refine law_goF (an := attrs) (P := prg) (lb := lawB) (d := 20) (k := 6) (n := 60) (C := 40) (ia := 10) (ib := 3) (ns := ["script", "n", "m", "k", "found", "error"]) (R := fun r s' => GoodW _ _ _ _ _ r s') law_true (by decide) (by kernel_rfl) ?_ ?_ (by assumption) (by assumption) (by assumption) ?_ (by assumption) (by assumption) (by assumption) (by assumption) rfl (by kernel_rfl) (by kernel_rfl) (by kernel_rfl) (by kernel_rfl) ?_
  · kernel_rfl
  · kernel_rfl
  · exact
      ⟨{ C := 40, N := _, fI := 37, cc := 25, cda := 36, na := "message", nb := "place", nm := _, q := _, bs := _, sn := _, sub := _, ab := _, col := _, dd := _, k0 := _, k1 := _, k2 := _, k3 := _, k5 := _,
         cls := rfl, nsOk := by kernel_rfl, init := by kernel_rfl, noGa := by kernel_rfl, noGh := by kernel_rfl, noSa := by kernel_rfl, noA := by kernel_rfl, noB := by kernel_rfl, lkA := lkM, lkB := lkP, ne := by kernel_rfl,
         fname := _, fqual := _, params := _, scope := _, dV := _, kV := _, doc := _, pm := _, fan := _, ct := _, oc := _, od := _, osl := _, ps := _, pn := _, pp := _, at_ := [32, 97, 116, 32], kk := _,
         q1 := _, q2 := _, q3 := _, q4 := _, q5 := _, q6 := _, q7 := _, r0 := _, r1 := _, r2 := _, r3 := _, r4 := _, r5 := _, r6 := _, r7 := _, r8 := _, r9 := _, r10 := _, r11 := _, r12 := _ },
       { fn := rfl, oc := rfl, code := by kernel_rfl, codeO := ⟨_, _, _, _, _, _, rfl, rfl, by kernel_rfl⟩, cell := ⟨_, _, _, rfl⟩, clsD := ⟨_, rfl, rfl⟩, subC := by kernel_rfl, subV := by kernel_rfl, super := by kernel_rfl, str := by kernel_rfl, any := by kernel_rfl, along := by kernel_rfl, top := by kernel_rfl,
         first := ⟨_, rfl, rfl⟩, bind := fun a b c => (bind_plain (vals := [a, b, c]) rfl rfl rfl rfl rfl (nodupS_sound (by kernel_rfl)) rfl).trans rfl, kind := rfl, co := rfl, gen := rfl, noCell := noCell_of (by kernel_rfl),
         lps := by kernel_rfl, lpn := by kernel_rfl, lpp := by kernel_rfl, lsu := by kernel_rfl, lst := by kernel_rfl, lcl := by kernel_rfl, dist := ⟨ne_ofB (by kernel_rfl), ne_ofB (by kernel_rfl), ne_ofB (by kernel_rfl)⟩, pos := by kernel_rfl, dps := by kernel_rfl, dpn := by kernel_rfl, dpp := by kernel_rfl }, (by decide : 4 < 1000), rfl, rfl, rfl⟩
  · exact fun h' tk' hk => good_true (by assumption) hk (fun _ => by kernel_rfl) (by kernel_rfl)
end Mine
open PySem PySem.W PyProof.Rows Mine
theorem PySem.Challenge.cw_ui0501_06_holds : PySem.Challenge.rw_ui0501_06.Holds := by
  exact Mine.main06
