import PyProof.Rows.All
import Wide.All
import OpenK.AllK
import Wide.FinOn
import HandS.ForMost
import HandS.ForExc
import HandS.Lambda
import HandS.TupAny
import HandS.TupMul
import HandS.Deep
import HandS.IsInst
import HandS.Wide
import HandS.Flow
import HandS.SortInts
import KE.DataEq
import HandS.Zip
import HandS.SetTxt0
import HandS.SetFor
import HandS.More
import HandS.Star
import HandS.OwnEq
import HandS.Property
import HandS.ClsMeth
import HandS.Conv
import HandS.Defaults
import HandS.FStr
import KE.GoesEnum
import HandS.Records
import KE.KOpsOwn
import HandS.Style
import HandS.TupSets
import HandS.Replace
import HandS.NoneIn
import HandS.ExcInit
import HandS.ExcField
import KE.KExcSuper
import KE.KSuper
import HandS.WordsExc
import HandS.HotCalls
import HandS.EndOwn
import PySem.Challenge.RW_gapborn_k08_muted_lines
set_option Elab.async false
set_option linter.all false
set_option maxRecDepth 100000
set_option maxHeartbeats 4000000
/-! data, memory, and what a program's text yields upon them -/
namespace G
open PySem PySem.Spec PyProof.Rows L2

/-- a guard at which no reduction starts -/
noncomputable def gi {α : Type} (c : Prop) (a b : α) : α := @ite α c (Classical.propDecidable c) a b
@[simp] theorem gi_true {α : Type} {a b : α} : gi True a b = a := by
  unfold gi
  exact if_pos trivial
@[simp] theorem gi_false {α : Type} {a b : α} : gi False a b = b := by
  unfold gi
  exact if_neg id
theorem gi_pos {α : Type} {c : Prop} {a b : α} (h : c) : gi c a b = a := by
  unfold gi
  exact if_pos h
/-- data that never changes -/
inductive D where
  | non | bl (b : Bool) | int (i : Int) | str (s : List Nat)
  | lst (xs : List D) | tup (xs : List D) | obj (c : Nat) (fs : List D)
  /-- the script -/
  | scr (ns : List Int)
  /-- what a lambda made -/
  | clo (k : Nat)
  /-- an exception's fields -/
  | exn (c : Nat) (fs : List D)
  /-- the thing at a -/
  | pv (a : Addr)
/-- a value: data, or the place of a thing that changes -/
inductive VD where
  | d (x : D) | adr (i : Nat)
inductive MO where
  | dead | lst (xs : List D) | ins (c : Nat) (fs : List VD)
  /-- a list of things that may change -/
  | lsv (xs : List VD)
abbrev Mem := List MO
/-- a lambda's text; one: the parameter that has 0 for its default -/
structure LamI where
  qual : Str
  params : Arguments
  body : Expr
  scope : Scope
  one : Option Str
structure Cf where
  K : PySem.W.Frag
  ca : Nat → Addr
  nm : Nat → List Str
  /-- tables of code objects -/
  tb : List (Addr × Str)
  /-- the cells that lambdas see -/
  cl : List (Str × Addr)
  lam : Nat → Option LamI
  /-- what is known from the beginning -/
  low : Hp
abbrev cf0 (K : PySem.W.Frag) (ca : Nat → Addr) (nm : Nat → List Str) : Cf := ⟨K, ca, nm, [], [], fun _ => none, fun _ => none⟩
abbrev lamFn (L : LamI) (cl : List (Str × Addr)) (dv pm cdv ct : Value) : FuncData :=
  { name := "<lambda>", qualname := L.qual, params := L.params, body := .expr L.body, scope := L.scope, globals := mainGlobals, closure := cl, defaults := dv, kwdefaults := .none, doc := .none, pyModule := pm, annotations := none, code := cdv, closureTuple := ct, builtins := builtinsNs }
abbrev lamObj (L : LamI) (cl : List (Str × Addr)) (dv pm : Value) (c' : Addr) (ct : Value) : Obj := { cls := .type "function", data := .func (lamFn L cl dv pm (.ref c') ct) }
/-- at f: the function that the lambda L made -/
def LamO (f : Addr) (L : LamI) (cl : List (Str × Addr)) (c' : Addr) (dv : Value) : HO := .ext fun h => ∃ pm ct : Value, h.get? f = some (lamObj L (cloFrom cl L.scope.names []) dv pm c' ct)
/-- at t: a tuple of one -/
def TupO (t : Addr) : HO := .ext fun h => ∃ v : Value, h.get? t = some { cls := .type "tuple", data := .seq #[v] }
/-- its defaults -/
def DvAt (B : Hp) (one : Option Str) (dv : Value) : Prop := match one with
  | none => dv = .none
  | some _ => ∃ t : Addr, dv = .ref t ∧ B t = some (TupO t)
theorem DvAt.mono {B B' : Hp} {one : Option Str} {dv : Value} (e : Same B B') (h : DvAt B one dv) : DvAt B' one dv := by
  cases one with
  | none => exact h
  | some x =>
    obtain ⟨t, h1, h2⟩ := h
    exact ⟨t, h1, e _ _ h2⟩
def enc (s : List Nat) : Str := ⟨s.toArray⟩
mutual
inductive Rep (C : Cf) (B : Hp) : V → D → Prop
  | non : Rep C B .non .non
  | bl (b : Bool) : Rep C B (.bl b) (.bl b)
  | int (i : Int) : Rep C B (.int i) (.int i)
  | str (s : List Nat) : Rep C B (.str (enc s)) (.str s)
  | lst {a : Addr} {vs : List V} {ds : List D} : B a = some (.lst vs) → RepA C B vs ds → Rep C B (.ref a) (.lst ds)
  | tup {a : Addr} {vs : List V} {ds : List D} : SqT C.K B a vs → RepA C B vs ds → Rep C B (.ref a) (.tup ds)
  | obj {a dx : Addr} {c : Nat} {vs : List V} {ds : List D} : B a = some (.ins (C.ca c) dx ((C.nm c).zip vs)) → vs.length = (C.nm c).length → RepA C B vs ds → Rep C B (.ref a) (.obj c ds)
  | scr {a : Addr} {ns : List Int} : SqL C.K B a (ns.map V.int) → Rep C B (.ref a) (.scr ns)
  | clo {f c' : Addr} {k : Nat} {L : LamI} {dv : Value} : C.lam k = some L → B f = some (LamO f L C.cl c' dv) → B c' = some (LamX.CodeO c' L.qual) → DvAt B L.one dv → Rep C B (.ref f) (.clo k)
  | exn {dx : Addr} {fl : List (Str × V)} {c : Nat} {vs : List V} {fs : List D} : B dx = some (.xd fl) → vs.length = (C.nm c).length → (∀ (j : Nat) (f : Str) (v : V), (C.nm c)[j]? = some f → vs[j]? = some v → fl.lookup f = some v) → RepA C B vs fs → Rep C B (.ref dx) (.exn c fs)
  | pv {a : Addr} : Rep C B (.ref a) (.pv a)
inductive RepA (C : Cf) (B : Hp) : List V → List D → Prop
  | nil : RepA C B [] []
  | cons {v : V} {vs : List V} {d : D} {ds : List D} : Rep C B v d → RepA C B vs ds → RepA C B (v :: vs) (d :: ds)
end
theorem sqL_sub {K : PySem.W.Frag} {B H : Hp} {a : Addr} {xs : List V} (e : Same B H) (h : SqL K B a xs) : SqL K H a xs := by
  rcases h with (h | ⟨o, h⟩) | h
  · exact .inl (.inl (e _ _ h))
  · exact .inl (.inr ⟨o, e _ _ h⟩)
  · exact .inr h
theorem sqT_sub {K : PySem.W.Frag} {B H : Hp} {a : Addr} {xs : List V} (e : Same B H) (h : SqT K B a xs) : SqT K H a xs := by
  rcases h with (h | ⟨o, h⟩) | h
  · exact .inl (.inl (e _ _ h))
  · exact .inl (.inr ⟨o, e _ _ h⟩)
  · exact .inr h
mutual
theorem Rep.mono {C : Cf} {B B' : Hp} (e : Same B B') : ∀ {v : V} {d : D}, Rep C B v d → Rep C B' v d
  | _, _, .non => .non
  | _, _, .bl b => .bl b
  | _, _, .int i => .int i
  | _, _, .str s => .str s
  | _, _, .lst h r => .lst (e _ _ h) (RepA.mono e r)
  | _, _, .tup h r => .tup (sqT_sub e h) (RepA.mono e r)
  | _, _, .obj h l r => .obj (e _ _ h) l (RepA.mono e r)
  | _, _, .scr h => .scr (sqL_sub e h)
  | _, _, .clo h0 h1 h2 h3 => .clo h0 (e _ _ h1) (e _ _ h2) (h3.mono e)
  | _, _, .exn h0 h1 h2 r => .exn (e _ _ h0) h1 h2 (RepA.mono e r)
  | _, _, .pv => .pv
theorem RepA.mono {C : Cf} {B B' : Hp} (e : Same B B') : ∀ {vs : List V} {ds : List D}, RepA C B vs ds → RepA C B' vs ds
  | _, _, .nil => .nil
  | _, _, .cons h r => .cons (Rep.mono e h) (RepA.mono e r)
end
structure Wd where
  B : Hp
  al : List Addr
def Le (W W' : Wd) : Prop := Same W.B W'.B ∧ ∃ l, W'.al = W.al ++ l
theorem Le.refl (W : Wd) : Le W W := ⟨Same.refl _, [], by simp⟩
theorem Le.trans {W W1 W2 : Wd} (a : Le W W1) (b : Le W1 W2) : Le W W2 := by
  obtain ⟨a1, l1, e1⟩ := a
  obtain ⟨b1, l2, e2⟩ := b
  exact ⟨a1.trans b1, l1 ++ l2, by rw [e2, e1, List.append_assoc]⟩
theorem Le.at {W W' : Wd} (h : Le W W') {i : Nat} {a : Addr} (e : W.al[i]? = some a) : W'.al[i]? = some a := by
  obtain ⟨_, l, q⟩ := h
  rw [q, List.getElem?_append_left (List.getElem?_eq_some_iff.mp e).1]
  exact e
def RepV (C : Cf) (W : Wd) (v : V) : VD → Prop
  | .d x => Rep C W.B v x
  | .adr i => ∃ a, v = .ref a ∧ W.al[i]? = some a
theorem RepV.mono {C : Cf} {W W' : Wd} {v : V} {d : VD} (e : Le W W') (h : RepV C W v d) : RepV C W' v d := by
  cases d with
  | d x => exact Rep.mono e.1 h
  | adr i =>
    obtain ⟨a, h1, h2⟩ := h
    exact ⟨a, h1, e.at h2⟩
inductive RepVA (C : Cf) (W : Wd) : List V → List VD → Prop
  | nil : RepVA C W [] []
  | cons {v : V} {vs : List V} {d : VD} {ds : List VD} : RepV C W v d → RepVA C W vs ds → RepVA C W (v :: vs) (d :: ds)
theorem RepVA.mono {C : Cf} {W W' : Wd} (e : Le W W') : ∀ {vs : List V} {ds : List VD}, RepVA C W vs ds → RepVA C W' vs ds
  | _, _, .nil => .nil
  | _, _, .cons h r => .cons (h.mono e) (RepVA.mono e r)
theorem RepVA.length {C : Cf} {W : Wd} : ∀ {vs : List V} {ds : List VD}, RepVA C W vs ds → vs.length = ds.length
  | _, _, .nil => rfl
  | _, _, .cons _ r => by rw [List.length_cons, List.length_cons, r.length]
theorem RepA.length {C : Cf} {B : Hp} : ∀ {vs : List V} {ds : List D}, RepA C B vs ds → vs.length = ds.length
  | _, _, .nil => rfl
  | _, _, .cons _ r => by rw [List.length_cons, List.length_cons, r.length]
theorem RepA.get {C : Cf} {B : Hp} : ∀ {vs : List V} {ds : List D} {i : Nat} {d : D}, RepA C B vs ds → ds[i]? = some d → ∃ v, vs[i]? = some v ∧ Rep C B v d
  | _, _, _, _, .nil, e => by simp at e
  | _, _, 0, _, .cons h _, e => by
    simp at e
    subst e
    exact ⟨_, rfl, h⟩
  | _, _, i + 1, _, .cons _ r, e => by
    obtain ⟨v, h1, h2⟩ := RepA.get (i := i) r (by simpa using e)
    exact ⟨v, by simpa using h1, h2⟩
theorem RepA.append {C : Cf} {B : Hp} : ∀ {vs ws : List V} {ds es : List D}, RepA C B vs ds → RepA C B ws es → RepA C B (vs ++ ws) (ds ++ es)
  | _, _, _, _, .nil, s => s
  | _, _, _, _, .cons h r, s => .cons h (RepA.append r s)
theorem RepA.take {C : Cf} {B : Hp} : ∀ {vs : List V} {ds : List D} (n : Nat), RepA C B vs ds → RepA C B (vs.take n) (ds.take n)
  | _, _, 0, _ => .nil
  | _, _, _ + 1, .nil => .nil
  | _, _, n + 1, .cons h r => .cons h (RepA.take n r)
theorem RepA.drop {C : Cf} {B : Hp} : ∀ {vs : List V} {ds : List D} (n : Nat), RepA C B vs ds → RepA C B (vs.drop n) (ds.drop n)
  | _, _, 0, r => r
  | _, _, _ + 1, .nil => .nil
  | _, _, n + 1, .cons _ r => RepA.drop n r
theorem RepA.set {C : Cf} {B : Hp} {v : V} {d : D} (h : Rep C B v d) : ∀ {vs : List V} {ds : List D} (i : Nat), RepA C B vs ds → RepA C B (vs.set i v) (ds.set i d)
  | _, _, _, .nil => .nil
  | _, _, 0, .cons _ r => .cons h r
  | _, _, i + 1, .cons q r => .cons q (RepA.set h i r)
theorem RepVA.get {C : Cf} {W : Wd} : ∀ {vs : List V} {ds : List VD} {i : Nat} {d : VD}, RepVA C W vs ds → ds[i]? = some d → ∃ v, vs[i]? = some v ∧ RepV C W v d
  | _, _, _, _, .nil, e => by simp at e
  | _, _, 0, _, .cons h _, e => by
    simp at e
    subst e
    exact ⟨_, rfl, h⟩
  | _, _, i + 1, _, .cons _ r, e => by
    obtain ⟨v, h1, h2⟩ := RepVA.get (i := i) r (by simpa using e)
    exact ⟨v, by simpa using h1, h2⟩
theorem RepVA.append {C : Cf} {W : Wd} : ∀ {vs ws : List V} {ds es : List VD}, RepVA C W vs ds → RepVA C W ws es → RepVA C W (vs ++ ws) (ds ++ es)
  | _, _, _, _, .nil, s => s
  | _, _, _, _, .cons h r, s => .cons h (RepVA.append r s)
/-- data values alone -/
def dats : List VD → Option (List D)
  | [] => some []
  | .d x :: r => (dats r).map (x :: ·)
  | _ => none
theorem RepVA.dat {C : Cf} {W : Wd} : ∀ {vs : List V} {ds : List VD} {xs : List D}, RepVA C W vs ds → dats ds = some xs → RepA C W.B vs xs
  | _, _, _, .nil, e => by
    cases e
    exact .nil
  | _, _, _, .cons (d := .d x) (ds := ds) h r, e => by
    cases q : dats ds with
    | none =>
      rw [dats, q] at e
      cases e
    | some ys =>
      rw [dats, q] at e
      cases e
      exact .cons h (RepVA.dat r q)
  | _, _, _, .cons (d := .adr i) h r, e => by cases e

/-! ### the heap holds the world and the memory -/
def MoOk (C : Cf) (W : Wd) (H : Hp) (a : Addr) : MO → Prop
  | .dead => ∃ o, W.B a = some o
  | .lst ds => W.B a = none ∧ ∃ vs, H a = some (.lst vs) ∧ RepA C W.B vs ds
  | .lsv ds => W.B a = none ∧ ∃ vs, H a = some (.lst vs) ∧ RepVA C W vs ds
  | .ins c fs => W.B a = none ∧ ∃ dx vs, H a = some (.ins (C.ca c) dx ((C.nm c).zip vs)) ∧ vs.length ≤ (C.nm c).length ∧ RepVA C W vs fs
structure Ok (C : Cf) (W : Wd) (H : Hp) (M : Mem) : Prop where
  sub : Same W.B H
  nd : W.al.Nodup
  len : W.al.length = M.length
  mo : ∀ (i : Nat) (a : Addr) (m : MO), W.al[i]? = some a → M[i]? = some m → MoOk C W H a m
  tab : LamX.Tabs C.tb H
  tbB : ∀ p ∈ C.tb, W.B p.1 = none
  low : Same C.low W.B
/-- no table, nothing of which the heap tells -/
def Plain (o : HO) : Prop := (∀ ps, o ≠ .tbl ps) ∧ ∀ φ, o ≠ .ext φ
theorem plain_lst {vs : List V} : Plain (.lst vs) := ⟨(fun ps h => by cases h), (fun ps h => by cases h)⟩
theorem plain_ins {c dx : Addr} {fs : List (Str × V)} : Plain (.ins c dx fs) := ⟨(fun ps h => by cases h), (fun ps h => by cases h)⟩
theorem codeO_ext {c : Addr} {q : Str} : ∃ φ, LamX.CodeO c q = .ext φ := ⟨_, rfl⟩
theorem tab_nlst {C : Cf} {H : Hp} {p : Addr} {vs : List V} (h : LamX.Tabs C.tb H) (e : H p = some (.lst vs)) : ∀ q ∈ C.tb, q.1 ≠ p := fun q hq z => by
  obtain ⟨ps, h1, _⟩ := h q hq
  rw [z, e] at h1
  cases h1
theorem tabs_write {T : List (Addr × Str)} {H : Hp} {a : Addr} {o o' : HO} (h : LamX.Tabs T H) (e : H a = some o) (p : Plain o) : LamX.Tabs T (upd H a o') := fun q hq => by
  obtain ⟨ps, h1, h2, h3⟩ := h q hq
  refine ⟨ps, by rw [upd_ne (fun z => p.1 ps (by rw [z, e] at h1; exact Option.some.inj h1))]; exact h1, h2, fun pos cv hc => ?_⟩
  obtain ⟨c, e1, e2⟩ := h3 pos cv hc
  refine ⟨c, e1, ?_⟩
  rw [upd_ne fun z => ?_]
  · exact e2
  · rw [z, e] at e2
    obtain ⟨φ, hφ⟩ := codeO_ext (c := c) (q := q.2)
    exact p.2 φ ((Option.some.inj e2).trans (by rw [← hφ, z]))
theorem nt_lst {vs : List V} : Plain (.lst vs) := plain_lst
section
variable {C : Cf} {W W' : Wd} {H H' : Hp} {M : Mem} {p a : Addr} {o : HO}
theorem MoOk.ne {m : MO} (ok : Same W.B H) (h : MoOk C W H a m) : H a ≠ none := by
  cases m with
  | dead =>
    obtain ⟨o, e⟩ := h
    rw [ok _ _ e]
    exact fun z => by cases z
  | lst ds =>
    obtain ⟨_, vs, e, _⟩ := h
    rw [e]
    exact fun z => by cases z
  | ins c fs =>
    obtain ⟨_, dx, vs, e, _⟩ := h
    rw [e]
    exact fun z => by cases z
  | lsv ds =>
    obtain ⟨_, vs, e, _⟩ := h
    rw [e]
    exact fun z => by cases z
theorem Ok.ne (ok : Ok C W H M) (hp : H p = none) {i : Nat} (e : W.al[i]? = some a) : a ≠ p := by
  intro z
  subst z
  have hi : i < M.length := by rw [← ok.len]; exact (List.getElem?_eq_some_iff.mp e).1
  exact (ok.mo i a _ e (List.getElem?_eq_getElem hi)).ne ok.sub hp
theorem Ok.notB (ok : Ok C W H M) (hp : H p = none) : W.B p = none := by
  cases q : W.B p with
  | none => rfl
  | some o =>
    rw [ok.sub p o q] at hp
    cases hp
/-- H grows by things that nobody speaks of -/
theorem Ok.grow (ok : Ok C W H M) (s : Same H H') : Ok C W H' M := by
  refine ⟨ok.sub.trans s, ok.nd, ok.len, fun i a m e1 e2 => ?_, LamX.Tabs.ext ok.tab s, ok.tbB, ok.low⟩
  have q := ok.mo i a m e1 e2
  cases m with
  | dead => exact q
  | lst ds =>
    obtain ⟨q1, vs, q2, q3⟩ := q
    exact ⟨q1, vs, s _ _ q2, q3⟩
  | ins c fs =>
    obtain ⟨q1, dx, vs, q2, q3⟩ := q
    exact ⟨q1, dx, vs, s _ _ q2, q3⟩
  | lsv ds =>
    obtain ⟨q1, vs, q2, q3⟩ := q
    exact ⟨q1, vs, s _ _ q2, q3⟩
abbrev Wd.put (W : Wd) (p : Addr) (o : HO) : Wd := ⟨upd W.B p o, W.al⟩
theorem same_upd {B : Hp} (hp : B p = none) : Same B (upd B p o) := fun b u e => by rw [upd_ne (ne_of_none e hp)]; exact e
theorem Le.put (hp : W.B p = none) : Le W (W.put p o) := ⟨same_upd hp, [], by simp⟩
theorem MoOk.world {m : MO} (l : Le W W') (h : MoOk C W H a m) (n : (∀ z, m = z → z ≠ .dead → W'.B a = none)) : MoOk C W' H a m := by
  cases m with
  | dead =>
    obtain ⟨o, e⟩ := h
    exact ⟨o, l.1 _ _ e⟩
  | lst ds =>
    obtain ⟨_, vs, e, r⟩ := h
    exact ⟨n _ rfl (fun z => by cases z), vs, e, r.mono l.1⟩
  | ins c fs =>
    obtain ⟨_, dx, vs, e, q, r⟩ := h
    exact ⟨n _ rfl (fun z => by cases z), dx, vs, e, q, r.mono l⟩
  | lsv ds =>
    obtain ⟨_, vs, e, r⟩ := h
    exact ⟨n _ rfl (fun z => by cases z), vs, e, r.mono l⟩
theorem MoOk.plain {m : MO} (h : MoOk C W H a m) (n : m ≠ .dead) : ∃ u, H a = some u ∧ Plain u := by
  cases m with
  | dead => exact absurd rfl n
  | lst ds =>
    obtain ⟨_, vs, e, _⟩ := h
    exact ⟨_, e, plain_lst⟩
  | ins c fs =>
    obtain ⟨_, dx, vs, e, _⟩ := h
    exact ⟨_, e, plain_ins⟩
  | lsv ds =>
    obtain ⟨_, vs, e, _⟩ := h
    exact ⟨_, e, plain_lst⟩
theorem MoOk.freeB {m : MO} (h : MoOk C W H a m) (n : m ≠ .dead) : W.B a = none := by
  cases m with
  | dead => exact absurd rfl n
  | lst ds => exact h.1
  | ins c fs => exact h.1
  | lsv ds => exact h.1
/-- something of H that the world doesn't know, and no mutable thing is, becomes known -/
theorem Ok.know (ok : Ok C W H M) (hp : H p = some o) (hb : W.B p = none) (hn : ∀ i : Nat, W.al[i]? ≠ some p) (nt : ∀ q ∈ C.tb, q.1 ≠ p) : Ok C (W.put p o) H M ∧ Le W (W.put p o) := by
  refine ⟨⟨fun b u e => ?_, ok.nd, ok.len, fun i a m e1 e2 => ?_, ok.tab, fun q hq => by
    show upd W.B p o q.1 = none
    rw [upd_ne (nt q hq)]
    exact ok.tbB q hq, ok.low.trans (same_upd hb)⟩, Le.put hb⟩
  · have e : upd W.B p o b = some u := e
    by_cases q : b = p
    · subst q
      rw [upd_same] at e
      cases e
      exact hp
    · rw [upd_ne q] at e
      exact ok.sub b u e
  · refine (ok.mo i a m e1 e2).world (Le.put hb) fun z e n => ?_
    subst e
    have ne : a ≠ p := fun q => hn i (by rw [← q]; exact e1)
    show upd W.B p o a = none
    rw [upd_ne ne]
    exact (ok.mo i a m e1 e2).freeB n
/-- a new thing that never changes -/
theorem Ok.new (ok : Ok C W H M) (hp : H p = none) : Ok C (W.put p o) (upd H p o) M ∧ Le W (W.put p o) :=
  (ok.grow (same_upd hp)).know upd_same (ok.notB hp) (fun i e => ok.ne hp e rfl) fun q hq z => by
    obtain ⟨ps, h1, _⟩ := ok.tab q hq
    rw [z, hp] at h1
    cases h1
theorem nodup_snoc {l : List Addr} (h : l.Nodup) (n : p ∉ l) : (l ++ [p]).Nodup := by
  rw [List.nodup_append]
  exact ⟨h, by simp, fun a ha b hb => by
    simp at hb
    subst hb
    exact fun e => n (e ▸ ha)⟩
/-- a new thing that changes -/
theorem Ok.newM {m : MO} (ok : Ok C W H M) (hp : H p = none) (hm : MoOk C ⟨W.B, W.al ++ [p]⟩ (upd H p o) p m) : Ok C ⟨W.B, W.al ++ [p]⟩ (upd H p o) (M ++ [m]) ∧ Le W ⟨W.B, W.al ++ [p]⟩ := by
  have l : Le W ⟨W.B, W.al ++ [p]⟩ := ⟨Same.refl _, [p], rfl⟩
  refine ⟨⟨(ok.grow (same_upd hp)).sub, nodup_snoc ok.nd fun h => ?_, by simp [ok.len], fun i a n e1 e2 => ?_, LamX.Tabs.ext ok.tab (same_upd hp), ok.tbB, ok.low⟩, l⟩
  · obtain ⟨i, e⟩ := List.mem_iff_getElem?.mp h
    exact ok.ne hp e rfl
  · have e1' : (W.al ++ [p])[i]? = some a := e1
    by_cases hi : i < M.length
    · rw [List.getElem?_append_left hi] at e2
      rw [List.getElem?_append_left (by rw [ok.len]; exact hi)] at e1'
      have q := (ok.grow (same_upd hp (o := o))).mo i a n e1' e2
      exact q.world l fun z e nd => by
        subst e
        exact q.freeB nd
    · have hi' : i = M.length := by
        have := (List.getElem?_eq_some_iff.mp e2).1
        simp at this
        omega
      subst hi'
      simp at e2
      subst e2
      rw [← ok.len] at e1'
      simp at e1'
      subst e1'
      exact hm
/-- a thing that changes is written -/
theorem Ok.write {m0 m : MO} {i : Nat} (ok : Ok C W H M) (hi : W.al[i]? = some a) (h0 : M[i]? = some m0) (hnd : m0 ≠ .dead) (hm : MoOk C W (upd H a o) a m) : Ok C W (upd H a o) (M.set i m) := by
  have hB := (ok.mo i a m0 hi h0).freeB hnd
  refine ⟨fun b u e => ?_, ok.nd, by rw [List.length_set]; exact ok.len, fun j b n e1 e2 => ?_, by
    obtain ⟨u, e, p⟩ := (ok.mo i a m0 hi h0).plain hnd
    exact tabs_write ok.tab e p, ok.tbB, ok.low⟩
  · rw [upd_ne (ne_of_none e hB)]
    exact ok.sub b u e
  · by_cases hj : j = i
    · subst hj
      rw [hi] at e1
      cases e1
      rw [List.getElem?_set_self (List.getElem?_eq_some_iff.mp h0).1] at e2
      cases e2
      exact hm
    · rw [List.getElem?_set_ne (Ne.symm hj)] at e2
      have ne : b ≠ a := fun q => by
        subst q
        obtain ⟨h1, e1'⟩ := List.getElem?_eq_some_iff.mp e1
        obtain ⟨h2, e2'⟩ := List.getElem?_eq_some_iff.mp hi
        exact hj ((List.getElem_inj ok.nd).mp (e1'.trans e2'.symm))
      have q := ok.mo j b n e1 e2
      cases n with
      | dead => exact q
      | lst ds =>
        obtain ⟨q1, vs, q2, q3⟩ := q
        exact ⟨q1, vs, by rw [upd_ne ne]; exact q2, q3⟩
      | ins c fs =>
        obtain ⟨q1, dx, vs, q2, q3⟩ := q
        exact ⟨q1, dx, vs, by rw [upd_ne ne]; exact q2, q3⟩
      | lsv ds =>
        obtain ⟨q1, vs, q2, q3⟩ := q
        exact ⟨q1, vs, by rw [upd_ne ne]; exact q2, q3⟩
/-- a thing that changed is let be for ever -/
theorem Wd.put_B {W : Wd} {p : Addr} {o : HO} : (W.put p o).B = upd W.B p o := rfl
theorem Ok.freeze {m0 : MO} {i : Nat} (ok : Ok C W H M) (hi : W.al[i]? = some a) (h0 : M[i]? = some m0) (hnd : m0 ≠ .dead) (hH : H a = some o) : Ok C (W.put a o) H (M.set i .dead) ∧ Le W (W.put a o) := by
  have hB := (ok.mo i a m0 hi h0).freeB hnd
  refine ⟨⟨fun b u e => ?_, ok.nd, by rw [List.length_set]; exact ok.len, fun j b n e1 e2 => ?_, ok.tab, fun q hq => by
    obtain ⟨u, e, p⟩ := (ok.mo i a m0 hi h0).plain hnd
    obtain ⟨ps, h1, _⟩ := ok.tab q hq
    rw [Wd.put_B, upd_ne fun z => p.1 ps (by rw [z, e] at h1; exact Option.some.inj h1)]
    exact ok.tbB q hq, ok.low.trans (same_upd hB)⟩, Le.put hB⟩
  · rw [Wd.put_B] at e
    by_cases q : b = a
    · subst q
      rw [upd_same] at e
      cases e
      exact hH
    · rw [upd_ne q] at e
      exact ok.sub b u e
  · by_cases hj : j = i
    · subst hj
      rw [hi] at e1
      cases e1
      rw [List.getElem?_set_self (List.getElem?_eq_some_iff.mp h0).1] at e2
      cases e2
      exact ⟨o, upd_same⟩
    · rw [List.getElem?_set_ne (Ne.symm hj)] at e2
      have ne : b ≠ a := fun q => by
        subst q
        obtain ⟨h1, e1'⟩ := List.getElem?_eq_some_iff.mp e1
        obtain ⟨h2, e2'⟩ := List.getElem?_eq_some_iff.mp hi
        exact hj ((List.getElem_inj ok.nd).mp (e1'.trans e2'.symm))
      refine (ok.mo j b n e1 e2).world (Le.put hB) fun z e nd => ?_
      subst e
      show upd W.B a o b = none
      rw [upd_ne ne]
      exact (ok.mo j b n e1 e2).freeB nd
end

/-! ### from one moment to a later one -/
structure Step (W : Wd) (H : Hp) (W' : Wd) (H' : Hp) : Prop where
  le : Le W W'
  fr : ∀ (a : Addr) (o : HO), H a = some o → W.B a = none → (∀ i : Nat, W.al[i]? ≠ some a) → Plain o → H' a = some o ∧ W'.B a = none ∧ ∀ i : Nat, W'.al[i]? ≠ some a
theorem Step.refl (W : Wd) (H : Hp) : Step W H W H := ⟨Le.refl W, fun _ _ h1 h2 h3 _ => ⟨h1, h2, h3⟩⟩
theorem Step.trans {W W1 W2 : Wd} {H H1 H2 : Hp} (a : Step W H W1 H1) (b : Step W1 H1 W2 H2) : Step W H W2 H2 := ⟨a.le.trans b.le, fun x o h1 h2 h3 h4 => by
  obtain ⟨q1, q2, q3⟩ := a.fr x o h1 h2 h3 h4
  exact b.fr x o q1 q2 q3 h4⟩
section
variable {C : Cf} {W W' : Wd} {H H' : Hp} {M : Mem} {p a : Addr} {o : HO}
/-- what was not there becomes known -/
theorem Step.put (st : Step W H W' H') (hp : H p = none) (hb : W'.B p = none) : Step W H (W'.put p o) H' := ⟨st.le.trans (Le.put hb), fun x u h1 h2 h3 h4 => by
  obtain ⟨q1, q2, q3⟩ := st.fr x u h1 h2 h3 h4
  refine ⟨q1, ?_, q3⟩
  show upd W'.B p o x = none
  rw [upd_ne (ne_of_none h1 hp)]
  exact q2⟩
theorem Step.grow (hp : H p = none) : Step W H W (upd H p o) := ⟨Le.refl W, fun x u h1 h2 h3 _ => ⟨by rw [upd_ne (ne_of_none h1 hp)]; exact h1, h2, h3⟩⟩
theorem Step.new (ok : Ok C W H M) (hp : H p = none) : Step W H (W.put p o) (upd H p o) := (Step.grow hp).put hp (ok.notB hp)
theorem Step.newM (ok : Ok C W H M) (hp : H p = none) : Step W H ⟨W.B, W.al ++ [p]⟩ (upd H p o) := ⟨⟨Same.refl _, [p], rfl⟩, fun x u h1 h2 h3 _ => by
  have ne := ne_of_none h1 hp
  refine ⟨by rw [upd_ne ne]; exact h1, h2, fun i e => ?_⟩
  have e : (W.al ++ [p])[i]? = some x := e
  by_cases hi : i < W.al.length
  · rw [List.getElem?_append_left hi] at e
    exact h3 i e
  · rw [List.getElem?_append_right (by omega)] at e
    cases q : i - W.al.length with
    | zero =>
      rw [q] at e
      exact ne (Option.some.inj e).symm
    | succ n =>
      rw [q] at e
      simp at e⟩
theorem Step.write {i : Nat} (hi : W.al[i]? = some a) : Step W H W (upd H a o) := ⟨Le.refl W, fun x u h1 h2 h3 _ => ⟨by rw [upd_ne (fun e => h3 i (by rw [hi, e]))]; exact h1, h2, h3⟩⟩
theorem Step.freeze {i : Nat} (hi : W.al[i]? = some a) (hB : W.B a = none) : Step W H (W.put a o) H := ⟨Le.put hB, fun x u h1 h2 h3 _ => by
  refine ⟨h1, ?_, h3⟩
  show upd W.B a o x = none
  rw [upd_ne (fun e => h3 i (by rw [hi, e]))]
  exact h2⟩
end

/-! ### what a piece of text yields -/
inductive Res (α : Type) where
  | ok (v : α) (M : Mem) | exc (c : Nat) (fs : List D) (M : Mem) | fail
def Res.bind {α β : Type} (r : Res α) (k : α → Mem → Res β) : Res β := match r with
  | .ok v M => k v M
  | .exc c fs M => .exc c fs M
  | .fail => .fail
abbrev Env := List (Option VD)
abbrev Mx (α : Type) := Env → Mem → Res α
/-- an exception as it lies behind -/
def ExcAt (C : Cf) (W : Wd) (dx : Addr) (c : Nat) (fs : List D) : Prop := Rep C W.B (.ref dx) (.exn c fs)
def ePost (C : Cf) (E : XK) (W : Wd) (H : Hp) (c : Nat) (fs : List D) (M : Mem) : Prop :=
  ∀ W' H' dx, Step W H W' H' → Ok C W' H' M → ExcAt C W' dx c fs → E (.ref (C.ca c)) (some dx) H'
def post {α β : Type} (C : Cf) (rel : Wd → β → α → Prop) (E : XK) (Q : β → Hp → Prop) (W : Wd) (H : Hp) (r : Res α) : Prop := match r with
  | .ok v M => ∀ W' H' x, Step W H W' H' → Ok C W' H' M → rel W' x v → Q x H'
  | .exc c fs M => ePost C E W H c fs M
  | .fail => False
theorem ePost.mono {C : Cf} {E : XK} {W W' : Wd} {H H' : Hp} {c : Nat} {fs : List D} {M : Mem} (l : Step W H W' H') (h : ePost C E W H c fs M) : ePost C E W' H' c fs M := fun W2 H2 dx l2 => h W2 H2 dx (l.trans l2)
section
variable {C : Cf} {E : XK} {W W' : Wd} {H H' : Hp} {α β γ δ : Type} {rel : Wd → β → α → Prop} {rel2 : Wd → δ → γ → Prop} {Q : β → Hp → Prop} {Q2 : δ → Hp → Prop}
theorem post.mono {r : Res α} (l : Step W H W' H') (h : post C rel E Q W H r) : post C rel E Q W' H' r := by
  cases r with
  | ok v M => exact fun W2 H2 x l2 => h W2 H2 x (l.trans l2)
  | exc c fs M => exact ePost.mono l h
  | fail => exact h
theorem post_bind {r : Res α} {k : α → Mem → Res γ} (h : post C rel2 E Q2 W H (r.bind k)) (hk : ∀ a M1 W1 H1 x, Step W H W1 H1 → Ok C W1 H1 M1 → rel W1 x a → post C rel2 E Q2 W1 H1 (k a M1) → Q x H1) : post C rel E Q W H r := by
  cases r with
  | ok v M => exact fun W1 H1 x l ok1 ra => hk v M W1 H1 x l ok1 ra (post.mono l h)
  | exc c fs M => exact h
  | fail => exact h
end
def relB : Wd → Bool → Bool → Prop := fun _ x y => x = y
def Slots (C : Cf) (W : Wd) (σ : L2.St) (ρ : Env) : Prop := σ.length = ρ.length ∧ ∀ (i : Nat) (d : VD), ρ[i]? = some (some d) → ∃ v, σ[i]? = some (some v) ∧ RepV C W v d
theorem Slots.mono {C : Cf} {W W' : Wd} {σ : L2.St} {ρ : Env} (l : Le W W') (h : Slots C W σ ρ) : Slots C W' σ ρ := ⟨h.1, fun i d e => by
  obtain ⟨v, h1, h2⟩ := h.2 i d e
  exact ⟨v, h1, h2.mono l⟩⟩
theorem Slots.set {C : Cf} {W : Wd} {σ : L2.St} {ρ : Env} {i : Nat} {v : V} {d : VD} (h : Slots C W σ ρ) (r : RepV C W v d) : Slots C W (σ.set i (some v)) (ρ.set i (some d)) := ⟨by rw [List.length_set, List.length_set]; exact h.1, fun j e q => by
  by_cases hj : i = j
  · subst hj
    have hi : i < ρ.length := by
      have := (List.getElem?_eq_some_iff.mp q).1
      simpa using this
    rw [List.getElem?_set_self hi] at q
    cases q
    exact ⟨v, List.getElem?_set_self (by rw [h.1]; exact hi), r⟩
  · rw [List.getElem?_set_ne hj] at q
    obtain ⟨w, h1, h2⟩ := h.2 j e q
    exact ⟨w, by rw [List.getElem?_set_ne hj]; exact h1, h2⟩⟩
theorem Slots.unset {C : Cf} {W : Wd} {σ : L2.St} {ρ : Env} {i : Nat} (h : Slots C W σ ρ) : Slots C W (σ.set i none) (ρ.set i none) := ⟨by rw [List.length_set, List.length_set]; exact h.1, fun j e q => by
  by_cases hj : i = j
  · subst hj
    have hi : i < ρ.length := by
      have := (List.getElem?_eq_some_iff.mp q).1
      simpa using this
    rw [List.getElem?_set_self hi] at q
    cases q
  · rw [List.getElem?_set_ne hj] at q
    obtain ⟨w, h1, h2⟩ := h.2 j e q
    exact ⟨w, by rw [List.getElem?_set_ne hj]; exact h1, h2⟩⟩
abbrev relV (C : Cf) : Wd → V → VD → Prop := fun W v d => RepV C W v d
abbrev relA (C : Cf) : Wd → List V → List VD → Prop := fun W v d => RepVA C W v d
def Sem (C : Cf) (E : XK) (te : TE) (m : Mx VD) : Prop := ∀ W σ H ρ M Q, Ok C W H M → Slots C W σ ρ → post C (relV C) E Q W H (m ρ M) → te σ H Q
def SemT (C : Cf) (E : XK) (tt : TT) (m : Mx Bool) : Prop := ∀ W σ H ρ M Q, Ok C W H M → Slots C W σ ρ → post C relB E Q W H (m ρ M) → tt σ H Q
def SemA (C : Cf) (E : XK) (ta : TA) (m : Mx (List VD)) : Prop := ∀ W σ H ρ M Q, Ok C W H M → Slots C W σ ρ → post C (relA C) E Q W H (m ρ M) → ta σ H Q
/-- expression, test, arguments -/
structure PX (X : Cx) (C : Cf) (E : XK) (e : Expr) (m : Mx VD) : Prop where
  ex : ∃ te, PE X e te ∧ Sem C E te m
structure PXT (X : Cx) (C : Cf) (E : XK) (e : Expr) (m : Mx Bool) : Prop where
  ex : ∃ tt, PT X e tt ∧ SemT C E tt m
structure PXW (X : Cx) (C : Cf) (E : XK) (e : Expr) (m : Mx Bool) : Prop where
  ex : ∃ tt, PW X e tt ∧ SemT C E tt m
structure PXA (X : Cx) (C : Cf) (E : XK) (es : List Expr) (m : Mx (List VD)) : Prop where
  ex : ∃ ta, PA X es ta ∧ SemA C E ta m

/-! ### values by values -/
def OpS (C : Cf) (E : XK) (r : R2) (f : VD → VD → Mem → Res VD) : Prop := ∀ W H M x y a b Q, Ok C W H M → RepV C W x a → RepV C W y b → post C (relV C) E Q W H (f a b M) → r x y H Q
def CallS (C : Cf) (E : XK) (r : List V → Hp → VK → Prop) (f : List VD → Mem → Res VD) : Prop := ∀ W H M xs as Q, Ok C W H M → RepVA C W xs as → post C (relV C) E Q W H (f as M) → r xs H Q
section
variable {X : Cx} {C : Cf} {E : XK}
/-! names, constants -/
def e_var (i : Nat) : Mx VD := fun ρ M => match ρ[i]? with
  | some (some d) => .ok d M
  | _ => .fail
theorem x_var (i : Nat) {x : Str} {pos : Pos} (hN : X.N[i]? = some x := by rfl) (hv : Vis X.env.scope x := by first | exact Or.inl rfl | exact Or.inr (Or.inl rfl) | exact Or.inr (Or.inr rfl)) (hd : (x == ("__debug__" : Str)) = false := by decide)
    (hcd : (x == ("__classdict__" : Str)) = false := by decide) : PX X C E (.Name x pos) (e_var i) := ⟨_, pe_var (hN := hN) (hv := hv) (hd := hd) (hcd := hcd), fun W σ H ρ M Q ok sl p => by
  unfold e_var at p
  split at p
  · rename_i d e
    obtain ⟨v, h1, h2⟩ := sl.2 i d e
    exact ⟨v, h1, p W H v (Step.refl _ _) ok h2⟩
  · exact p.elim⟩
def e_c (d : D) : Mx VD := fun _ M => .ok (.d d) M
theorem sem_c {v : V} {d : D} (h : ∀ B, Rep C B v d) : Sem C E (tC v) (e_c d) := fun W σ H ρ M Q ok sl p => p W H v (Step.refl _ _) ok (h _)
theorem x_int {i : Int} {j} {pos : Pos} : PX X C E (.Constant (.int i) j pos) (e_c (.int i)) := ⟨_, pe_int, sem_c fun _ => .int i⟩
theorem x_bl {i : Bool} {j} {pos : Pos} : PX X C E (.Constant (.bool i) j pos) (e_c (.bl i)) := ⟨_, pe_bl, sem_c fun _ => .bl i⟩
theorem x_non {j} {pos : Pos} : PX X C E (.Constant .none j pos) (e_c .non) := ⟨_, pe_non, sem_c fun _ => .non⟩
theorem x_str (l : List Nat) {x : Str} {j} {pos : Pos} (h : x.cps.toList = l := by decide +kernel) : PX X C E (.Constant (.str x) j pos) (e_c (.str l)) := by
  have e : x = enc l := by
    cases x
    subst h
    simp [enc]
  subst e
  exact ⟨_, pe_str, sem_c fun _ => .str l⟩
/-- a module's constant -/
theorem x_globI {i : Int} {x : Str} {pos : Pos} (hg : Gl X x) (hm : ∃ t, X.mg x = some (.int i t)) (hd : (x == ("__debug__" : Str)) = false := by decide) : PX X C E (.Name x pos) (e_c (.int i)) := by
  obtain ⟨t, hm⟩ := hm
  exact ⟨_, pe_glob (v := .int i) hg hm ⟨t, rfl⟩ (hd := hd), sem_c fun _ => .int i⟩
theorem x_globS (l : List Nat) {s : Str} {x : Str} {pos : Pos} (hg : Gl X x) (hm : ∃ t, X.mg x = some (.str s t)) (h : s.cps.toList = l := by decide +kernel) (hd : (x == ("__debug__" : Str)) = false := by decide) : PX X C E (.Name x pos) (e_c (.str l)) := by
  obtain ⟨t, hm⟩ := hm
  have e : s = enc l := by
    cases s
    subst h
    simp [enc]
  subst e
  exact ⟨_, pe_glob (v := .str (enc l)) hg hm ⟨t, rfl⟩ (hd := hd), sem_c fun _ => .str l⟩
/-! operators -/
def e_op (f : VD → VD → Mem → Res VD) (a b : Mx VD) : Mx VD := fun ρ M => (a ρ M).bind fun x M1 => (b ρ M1).bind fun y M2 => f x y M2
theorem sem_op {r : R2} {ta tb : TE} {f} {ma mb : Mx VD} (hr : OpS C E r f) (ha : Sem C E ta ma) (hb : Sem C E tb mb) : Sem C E (tOp r ta tb) (e_op f ma mb) := fun W σ H ρ M Q ok sl p => by
  refine ha W σ H ρ M _ ok sl (post_bind p fun a M1 W1 H1 x l1 ok1 ra p1 => ?_)
  refine hb W1 σ H1 ρ M1 _ ok1 (sl.mono l1.le) (post_bind p1 fun b M2 W2 H2 y l2 ok2 rb p2 => ?_)
  exact hr W2 H2 M2 x y a b Q ok2 (ra.mono l2.le) rb p2
theorem x_op {op : Operator} {r : R2} {f} {a b : Expr} {ma mb : Mx VD} {pos : Pos} (ho : OpR X (binaryOp op) r) (hr : OpS C E r f) (ha : PX X C E a ma) (hb : PX X C E b mb) : PX X C E (.BinOp a op b pos) (e_op f ma mb) := by
  obtain ⟨ta, pa, sa⟩ := ha
  obtain ⟨tb, pb, sb⟩ := hb
  exact ⟨_, pe_op ho pa pb, sem_op hr sa sb⟩
theorem x_cmp {op : CmpOp} {r : R2} {f} {a b : Expr} {ma mb : Mx VD} {pos : Pos} (ho : OpR X (compareOp op) r) (hr : OpS C E r f) (ha : PX X C E a ma) (hb : PX X C E b mb) (hm : behindInMarks op b = false := by first | rfl | exact nomark _) : PX X C E (.Compare a [op] [b] pos) (e_op f ma mb) := by
  obtain ⟨ta, pa, sa⟩ := ha
  obtain ⟨tb, pb, sb⟩ := hb
  exact ⟨_, pe_cmpR ho pa pb hm, sem_op hr sa sb⟩
end
end G

namespace G
open PySem PySem.Spec PyProof.Rows L2
def lim : Nat := 1000000
theorem lim_le {n : Nat} (h : n ≤ lim) : n ≤ sizeLine := Nat.le_trans h (by decide)
theorem lim_lt {n : Nat} (h : n < lim) : n < sizeLine := Nat.lt_of_lt_of_le h (by decide)
section
variable {X : Cx} {C : Cf} {E : XK}
theorem enc_len (s : List Nat) : (enc s).length = s.length := by simp [enc, Str.length]
theorem enc_app (s t : List Nat) : enc s ++ enc t = enc (s ++ t) := by
  show Str.append (enc s) (enc t) = _
  simp [enc, Str.append]
theorem enc_inj {s t : List Nat} (h : enc s = enc t) : s = t := by
  have := congrArg (fun z => z.cps.toList) h
  simpa [enc] using this
theorem post_ok {α β : Type} {rel : Wd → β → α → Prop} {Q : β → Hp → Prop} {W : Wd} {H : Hp} {M : Mem} {v : α} {x : β} (p : post C rel E Q W H (.ok v M)) (ok : Ok C W H M) (r : rel W x v) : Q x H := p W H x (Step.refl _ _) ok r
/-- a new list, a new tuple, as data -/
theorem post_lst {W : Wd} {H : Hp} {M : Mem} {Q : VK} {vs : List V} {ds : List D} (p : post C (relV C) E Q W H (.ok (.d (.lst ds)) M)) (ok : Ok C W H M) (r : RepA C W.B vs ds) : ∀ q, H q = none → Q (.ref q) (upd H q (.lst vs)) := fun q hq => by
  obtain ⟨ok', l⟩ := ok.new (o := .lst vs) hq
  exact p _ _ _ (Step.new ok hq) ok' (Rep.lst (by show upd W.B q _ q = _; rw [upd_same]) (r.mono l.1))
theorem post_tup {W : Wd} {H : Hp} {M : Mem} {Q : VK} {vs : List V} {ds : List D} (p : post C (relV C) E Q W H (.ok (.d (.tup ds)) M)) (ok : Ok C W H M) (r : RepA C W.B vs ds) : ∀ q, H q = none → Q (.ref q) (upd H q (.tup vs)) := fun q hq => by
  obtain ⟨ok', l⟩ := ok.new (o := .tup vs) hq
  exact p _ _ _ (Step.new ok hq) ok' (Rep.tup (.inl (.inl (by show upd W.B q _ q = _; rw [upd_same]))) (r.mono l.1))
/-- a list, a tuple, as it is read -/
def seqOf (M : Mem) : VD → Option (List D)
  | .d (.lst ds) => some ds
  | .d (.tup ds) => some ds
  | .d (.scr ns) => some (ns.map .int)
  | .adr i => match M[i]? with
    | some (.lst ds) => some ds
    | _ => none
  | _ => none
theorem repA_ints {B : Hp} : ∀ ns : List Int, RepA C B (ns.map V.int) (ns.map D.int)
  | [] => .nil
  | n :: ns => .cons (.int n) (repA_ints ns)
theorem seq_read {W : Wd} {H : Hp} {M : Mem} {x : V} {a : VD} {ds : List D} (ok : Ok C W H M) (r : RepV C W x a) (h : seqOf M a = some ds) : ∃ p vs, x = .ref p ∧ (SqL C.K H p vs ∨ SqT C.K H p vs) ∧ RepA C W.B vs ds := by
  unfold seqOf at h
  split at h
  · cases h
    cases (show Rep C W.B x (.lst ds) from r) with
    | lst h1 h2 => exact ⟨_, _, rfl, .inl (.inl (.inl (ok.sub _ _ h1))), h2⟩
  · cases h
    cases (show Rep C W.B x (.tup ds) from r) with
    | tup h1 h2 => exact ⟨_, _, rfl, .inr (sqT_sub ok.sub h1), h2⟩
  · rename_i ns
    cases h
    cases (show Rep C W.B x (.scr ns) from r) with
    | scr h1 => exact ⟨_, _, rfl, .inl (sqL_sub ok.sub h1), repA_ints _⟩
  · rename_i i
    obtain ⟨q, rfl, hq⟩ := r
    split at h
    · rename_i e
      cases h
      obtain ⟨_, vs, h1, h2⟩ := ok.mo i q _ hq e
      exact ⟨q, vs, rfl, .inl (SqL.of h1), h2⟩
    · cases h
  · cases h
def lsqOf (M : Mem) : VD → Option (List D)
  | .d (.lst ds) => some ds
  | .d (.scr ns) => some (ns.map .int)
  | .adr i => match M[i]? with
    | some (.lst ds) => some ds
    | _ => none
  | _ => none
theorem lsq_read {W : Wd} {H : Hp} {M : Mem} {x : V} {a : VD} {ds : List D} (ok : Ok C W H M) (r : RepV C W x a) (h : lsqOf M a = some ds) : ∃ p vs, x = .ref p ∧ SqL C.K H p vs ∧ RepA C W.B vs ds := by
  unfold lsqOf at h
  split at h
  · cases h
    cases (show Rep C W.B x (.lst ds) from r) with
    | lst h1 h2 => exact ⟨_, _, rfl, .inl (.inl (ok.sub _ _ h1)), h2⟩
  · rename_i ns
    cases h
    cases (show Rep C W.B x (.scr ns) from r) with
    | scr h1 => exact ⟨_, _, rfl, sqL_sub ok.sub h1, repA_ints _⟩
  · rename_i i
    obtain ⟨q, rfl, hq⟩ := r
    split at h
    · rename_i e
      cases h
      obtain ⟨_, vs, h1, h2⟩ := ok.mo i q _ hq e
      exact ⟨q, vs, rfl, SqL.of h1, h2⟩
    · cases h
  · cases h
def lstOf (M : Mem) : VD → Option (List D)
  | .d (.lst ds) => some ds
  | .adr i => match M[i]? with
    | some (.lst ds) => some ds
    | _ => none
  | _ => none
theorem lst_read {W : Wd} {H : Hp} {M : Mem} {x : V} {a : VD} {ds : List D} (ok : Ok C W H M) (r : RepV C W x a) (h : lstOf M a = some ds) : ∃ p vs, x = .ref p ∧ H p = some (.lst vs) ∧ RepA C W.B vs ds := by
  unfold lstOf at h
  split at h
  · cases h
    cases (show Rep C W.B x (.lst ds) from r) with
    | lst h1 h2 => exact ⟨_, _, rfl, ok.sub _ _ h1, h2⟩
  · rename_i i
    obtain ⟨q, rfl, hq⟩ := r
    split at h
    · rename_i e
      cases h
      obtain ⟨_, vs, h1, h2⟩ := ok.mo i q _ hq e
      exact ⟨q, vs, rfl, h1, h2⟩
    · cases h
  · cases h
theorem inv_int {W : Wd} {x : V} {i : Int} (r : RepV C W x (.d (.int i))) : x = .int i := by cases (show Rep C W.B x (.int i) from r); rfl
theorem inv_bl {W : Wd} {x : V} {i : Bool} (r : RepV C W x (.d (.bl i))) : x = .bl i := by cases (show Rep C W.B x (.bl i) from r); rfl
theorem inv_non {W : Wd} {x : V} (r : RepV C W x (.d .non)) : x = .non := by cases (show Rep C W.B x .non from r); rfl
theorem inv_str {W : Wd} {x : V} {s : List Nat} (r : RepV C W x (.d (.str s))) : x = .str (enc s) := by cases (show Rep C W.B x (.str s) from r); rfl

/-! + -/
def f_add : VD → VD → Mem → Res VD
  | .d (.int i), .d (.int j), M => .ok (.d (.int (i + j))) M
  | .d (.str s), .d (.str t), M => if s.length + t.length ≤ lim then .ok (.d (.str (s ++ t))) M else .fail
  | .d (.lst s), .d (.lst t), M => if s.length + t.length ≤ lim then .ok (.d (.lst (s ++ t))) M else .fail
  | .d (.tup s), .d (.tup t), M => if s.length + t.length ≤ lim then .ok (.d (.tup (s ++ t))) M else .fail
  | _, _, _ => .fail
def r_add (K : PySem.W.Frag) : R2 := fun x y H Q => (rI0 (fun i j => .int (i + j))) x y H Q ∨ ((fun x y H Q => ∃ i j, x = .str i ∧ y = .str j ∧ i.length + j.length ≤ sizeLine ∧ Q (.str (i ++ j)) H : R2) x y H Q ∨ (rCat x y H Q ∨ rCatA K x y H Q))
theorem o_add : OpR X (binaryOp .Add) (r_add X.K) := OpR.or op_add (OpR.or op_add_str (OpR.or op_cat op_catA))
theorem p_add : OpS C E (r_add C.K) f_add := fun W H M x y a b Q ok ra rb p => by
  unfold f_add at p
  split at p
  · cases inv_int ra
    cases inv_int rb
    exact .inl ⟨_, _, rfl, rfl, post_ok p ok (.int _)⟩
  · rename_i s t
    split at p
    · rename_i h
      cases inv_str ra
      cases inv_str rb
      refine .inr (.inl ⟨_, _, rfl, rfl, ?_, ?_⟩)
      · rw [enc_len, enc_len]
        exact lim_le h
      · rw [enc_app]
        exact post_ok p ok (.str _)
    · exact p.elim
  · rename_i s t
    split at p
    · rename_i h
      cases (show Rep C W.B x (.lst s) from ra) with
      | lst h1 h2 =>
        cases (show Rep C W.B y (.lst t) from rb) with
        | lst h3 h4 =>
          exact .inr (.inr (.inl ⟨_, _, _, _, rfl, rfl, ok.sub _ _ h1, ok.sub _ _ h3, by rw [h2.length, h4.length]; exact lim_le h, post_lst p ok (h2.append h4)⟩))
    · exact p.elim
  · rename_i s t
    split at p
    · rename_i h
      cases (show Rep C W.B x (.tup s) from ra) with
      | tup h1 h2 =>
        cases (show Rep C W.B y (.tup t) from rb) with
        | tup h3 h4 =>
          refine .inr (.inr (.inr ⟨_, _, _, _, rfl, rfl, sqT_sub ok.sub h1, sqT_sub ok.sub h3, by rw [h2.length, h4.length]; exact lim_le h, fun e => ?_, fun _ e => ?_, fun _ _ => post_tup p ok (h2.append h4)⟩))
          · subst e
            cases h2
            exact post_ok p ok (Rep.tup h3 h4)
          · subst e
            cases h4
            rw [List.append_nil] at p
            exact post_ok p ok (Rep.tup h1 h2)
    · exact p.elim
  · exact p.elim
theorem x_add {a b : Expr} {ma mb : Mx VD} {pos : Pos} (hK : C.K = X.K) (ha : PX X C E a ma) (hb : PX X C E b mb) : PX X C E (.BinOp a .Add b pos) (e_op f_add ma mb) := x_op (by rw [hK]; exact o_add) p_add ha hb
/-! -, *, //, % -/
def f_sub : VD → VD → Mem → Res VD
  | .d (.int i), .d (.int j), M => .ok (.d (.int (i - j))) M
  | _, _, _ => .fail
theorem p_sub : OpS C E (rI0 (fun i j => .int (i - j))) f_sub := fun W H M x y a b Q ok ra rb p => by
  unfold f_sub at p
  split at p
  · cases inv_int ra
    cases inv_int rb
    exact ⟨_, _, rfl, rfl, post_ok p ok (.int _)⟩
  · exact p.elim
theorem x_sub {a b : Expr} {ma mb : Mx VD} {pos : Pos} (ha : PX X C E a ma) (hb : PX X C E b mb) : PX X C E (.BinOp a .Sub b pos) (e_op f_sub ma mb) := x_op op_sub p_sub ha hb
noncomputable def f_mod : VD → VD → Mem → Res VD
  | .d (.int i), .d (.int j), M => gi (0 < j) (.ok (.d (.int (i % j))) M) .fail
  | _, _, _ => .fail
theorem p_mod : OpS C E (rI (fun _ j => 0 < j) fun i j => .int (i % j)) f_mod := fun W H M x y a b Q ok ra rb p => by
  unfold f_mod at p
  split at p
  · unfold gi at p
    split at p
    · rename_i h
      cases inv_int ra
      cases inv_int rb
      exact ⟨_, _, rfl, rfl, h, post_ok p ok (.int _)⟩
    · exact p.elim
  · exact p.elim
theorem x_mod {a b : Expr} {ma mb : Mx VD} {pos : Pos} (ha : PX X C E a ma) (hb : PX X C E b mb) : PX X C E (.BinOp a .Mod b pos) (e_op f_mod ma mb) := x_op op_mod p_mod ha hb
noncomputable def f_fdiv : VD → VD → Mem → Res VD
  | .d (.int i), .d (.int j), M => gi (0 < j ∧ j < 1073741824) (.ok (.d (.int (i / j))) M) .fail
  | _, _, _ => .fail
theorem p_fdiv : OpS C E (rI CDiv fun i j => .int (i / j)) f_fdiv := fun W H M x y a b Q ok ra rb p => by
  unfold f_fdiv at p
  split at p
  · unfold gi at p
    split at p
    · rename_i h
      cases inv_int ra
      cases inv_int rb
      exact ⟨_, _, rfl, rfl, h, post_ok p ok (.int _)⟩
    · exact p.elim
  · exact p.elim
theorem x_fdiv {a b : Expr} {ma mb : Mx VD} {pos : Pos} (ha : PX X C E a ma) (hb : PX X C E b mb) : PX X C E (.BinOp a .FloorDiv b pos) (e_op f_fdiv ma mb) := x_op op_fdiv p_fdiv ha hb
/-- numbers below 2^64 in size, a list a few times -/
noncomputable def f_mul : VD → VD → Mem → Res VD
  | .d (.int i), .d (.int j), M => gi ((-(2 ^ 64) < i ∧ i < 2 ^ 64) ∨ (-(2 ^ 64) < j ∧ j < 2 ^ 64)) (.ok (.d (.int (i * j))) M) .fail
  | .d (.lst s), .d (.int j), M => gi (j < 2 ^ 60 ∧ -(2 ^ 60) < j ∧ s.length * j.toNat ≤ lim) (.ok (.d (.lst (List.replicate j.toNat s).flatten)) M) .fail
  | _, _, _ => .fail
theorem RepA.rep {B : Hp} {vs : List V} {ds : List D} (h : RepA C B vs ds) : ∀ n : Nat, RepA C B (List.replicate n vs).flatten (List.replicate n ds).flatten
  | 0 => .nil
  | n + 1 => by
    rw [List.replicate_succ, List.replicate_succ, List.flatten_cons, List.flatten_cons]
    exact h.append (RepA.rep h n)
def r_mul : R2 := fun x y H Q => (rI CMul fun i j => .int (i * j)) x y H Q ∨ rRep x y H Q
theorem o_mul : OpR X (binaryOp .Mult) r_mul := OpR.or op_mul op_rep
theorem p_mul : OpS C E r_mul f_mul := fun W H M x y a b Q ok ra rb p => by
  unfold f_mul at p
  split at p
  · unfold gi at p
    split at p
    · rename_i h
      cases inv_int ra
      cases inv_int rb
      exact .inl ⟨_, _, rfl, rfl, h, post_ok p ok (.int _)⟩
    · exact p.elim
  · rename_i s j
    unfold gi at p
    split at p
    · rename_i h
      cases inv_int rb
      cases (show Rep C W.B x (.lst s) from ra) with
      | lst h1 h2 =>
        obtain ⟨g1, g2, g3⟩ := h
        exact .inr ⟨_, _, _, rfl, rfl, ok.sub _ _ h1, by omega, by omega, by rw [h2.length]; exact lim_le g3, post_lst p ok (h2.rep _)⟩
    · exact p.elim
  · exact p.elim
theorem x_mul {a b : Expr} {ma mb : Mx VD} {pos : Pos} (ha : PX X C E a ma) (hb : PX X C E b mb) : PX X C E (.BinOp a .Mult b pos) (e_op f_mul ma mb) := x_op o_mul p_mul ha hb
/-! <, <=, >, >= : numbers, texts -/
def ltL : List Nat → List Nat → Bool := fun a b => decide (a < b)
def f_cmp (pi : Int → Int → Bool) (ps : List Nat → List Nat → Bool) : VD → VD → Mem → Res VD
  | .d (.int i), .d (.int j), M => .ok (.d (.bl (pi i j))) M
  | .d (.str s), .d (.str t), M => .ok (.d (.bl (ps s t))) M
  | _, _, _ => .fail
def r_cmp (pi : Int → Int → Bool) (ps : List Nat → List Nat → Bool) : R2 := fun x y H Q => rI0 (fun i j => .bl (pi i j)) x y H Q ∨ (∃ i j, x = .str i ∧ y = .str j ∧ Q (.bl (ps i.cps.toList j.cps.toList)) H)
theorem p_cmp {pi : Int → Int → Bool} {ps : List Nat → List Nat → Bool} : OpS C E (r_cmp pi ps) (f_cmp pi ps) := fun W H M x y a b Q ok ra rb p => by
  unfold f_cmp at p
  split at p
  · cases inv_int ra
    cases inv_int rb
    exact .inl ⟨_, _, rfl, rfl, post_ok p ok (.bl _)⟩
  · cases inv_str ra
    cases inv_str rb
    refine .inr ⟨_, _, rfl, rfl, post_ok p ok ?_⟩
    have e : ∀ s, (enc s).cps.toList = s := fun s => by simp [enc]
    rw [e, e]
    exact .bl _
  · exact p.elim
def f_lt := f_cmp (fun i j => decide (i < j)) (fun s t => ltL s t)
def f_le := f_cmp (fun i j => decide (i ≤ j)) (fun s t => !ltL t s)
def f_gt := f_cmp (fun i j => decide (j < i)) (fun s t => ltL t s)
def f_ge := f_cmp (fun i j => decide (j ≤ i)) (fun s t => !ltL s t)
theorem o_lt : OpR X (compareOp .Lt) (r_cmp (fun i j => decide (i < j)) (fun s t => ltL s t)) := OpR.or op_lt op_lt_str
theorem o_le : OpR X (compareOp .LtE) (r_cmp (fun i j => decide (i ≤ j)) (fun s t => !ltL t s)) := OpR.or op_le op_le_str
theorem o_gt : OpR X (compareOp .Gt) (r_cmp (fun i j => decide (j < i)) (fun s t => ltL t s)) := OpR.or op_gt op_gt_str
theorem o_ge : OpR X (compareOp .GtE) (r_cmp (fun i j => decide (j ≤ i)) (fun s t => !ltL s t)) := OpR.or op_ge op_ge_str
end
/-! ==, != of data without objects -/
mutual
def D.eqv : D → D → Bool
  | .non, .non => true
  | .bl a, .bl b => a == b
  | .bl a, .int j => (if a then 1 else 0) == j
  | .int i, .bl b => i == (if b then 1 else 0)
  | .int i, .int j => i == j
  | .str x, .str y => x == y
  | .lst xs, .lst ys => D.eqvA xs ys
  | .tup xs, .tup ys => D.eqvA xs ys
  | _, _ => false
def D.eqvA : List D → List D → Bool
  | [], [] => true
  | x :: xs, y :: ys => D.eqv x y && D.eqvA xs ys
  | _, _ => false
end
mutual
/-- no objects, at most n deep -/
def D.pl : Nat → D → Bool
  | _, .non => true
  | _, .bl _ => true
  | _, .int _ => true
  | _, .str _ => true
  | n, .lst xs => match n with
    | 0 => false
    | n + 1 => D.plA n xs
  | n, .tup xs => match n with
    | 0 => false
    | n + 1 => D.plA n xs
  | _, .obj _ _ => false
  | _, .scr _ => false
  | _, .clo _ => false
  | _, .exn _ _ => false
  | _, .pv _ => false
def D.plA : Nat → List D → Bool
  | _, [] => true
  | n, x :: xs => D.pl n x && D.plA n xs
end
mutual
def D.py : D → PyData
  | .non => .none
  | .bl b => .bool b
  | .int i => .int i
  | .str s => .str (enc s)
  | .lst xs => .list (D.pyA xs)
  | .tup xs => .tuple (D.pyA xs)
  | .obj _ _ => .none
  | .scr _ => .none
  | .clo _ => .none
  | .exn _ _ => .none
  | .pv _ => .none
def D.pyA : List D → List PyData
  | [] => []
  | x :: xs => D.py x :: D.pyA xs
end
mutual
theorem py_eqv : ∀ (n m : Nat) (a b : D), a.pl n = true → b.pl m = true → PyData.eqv a.py b.py = D.eqv a b
  | _, _, .non, b, _, hb => by cases b <;> first | rfl | (simp [D.pl] at hb)
  | _, _, .bl _, b, _, hb => by cases b <;> first | rfl | (simp [D.pl] at hb)
  | _, _, .int _, b, _, hb => by cases b <;> first | rfl | (simp [D.pl] at hb)
  | _, _, .str s, b, _, hb => by
    cases b <;> first | rfl | (simp [D.pl] at hb) | skip
    rename_i t
    show (enc s == enc t) = (s == t)
    rw [Bool.eq_iff_iff, beq_iff_eq, beq_iff_eq]
    exact ⟨enc_inj, fun e => by rw [e]⟩
  | n, m, .lst xs, b, ha, hb => by
    cases b <;> first | rfl | (simp [D.pl] at hb) | skip
    rename_i ys
    cases n with
    | zero => simp [D.pl] at ha
    | succ n =>
      cases m with
      | zero => simp [D.pl] at hb
      | succ m => exact py_eqvA n m xs ys (by simpa [D.pl] using ha) (by simpa [D.pl] using hb)
  | n, m, .tup xs, b, ha, hb => by
    cases b <;> first | rfl | (simp [D.pl] at hb) | skip
    rename_i ys
    cases n with
    | zero => simp [D.pl] at ha
    | succ n =>
      cases m with
      | zero => simp [D.pl] at hb
      | succ m => exact py_eqvA n m xs ys (by simpa [D.pl] using ha) (by simpa [D.pl] using hb)
  | _, _, .obj _ _, _, ha, _ => by simp [D.pl] at ha
  | _, _, .scr _, _, ha, _ => by simp [D.pl] at ha
  | _, _, .clo _, _, ha, _ => by simp [D.pl] at ha
  | _, _, .exn _ _, _, ha, _ => by simp [D.pl] at ha
  | _, _, .pv _, _, ha, _ => by simp [D.pl] at ha
theorem py_eqvA : ∀ (n m : Nat) (a b : List D), D.plA n a = true → D.plA m b = true → PyData.eqvAll (D.pyA a) (D.pyA b) = D.eqvA a b
  | _, _, [], [], _, _ => rfl
  | _, _, [], _ :: _, _, _ => rfl
  | _, _, _ :: _, [], _, _ => rfl
  | n, m, x :: xs, y :: ys, ha, hb => by
    rw [D.plA, Bool.and_eq_true] at ha hb
    simp only [D.pyA, PyData.eqvAll, D.eqvA, py_eqv n m x y ha.1 hb.1, py_eqvA n m xs ys ha.2 hb.2]
end
mutual
theorem py_dp {C : Cf} {B H : Hp} (e : Same B H) : ∀ {n : Nat} {v : V} {d : D}, Rep C B v d → d.pl n = true → Dp C.K H v d.py
  | _, _, _, .non, _ => .non
  | _, _, _, .bl b, _ => .bl b
  | _, _, _, .int i, _ => .int i
  | _, _, _, .str s, _ => .str (enc s)
  | n, _, _, .lst h r, hp => by
    cases n with
    | zero => simp [D.pl] at hp
    | succ n => exact .lst (.inl (.inl (e _ _ h))) (py_dpA e r (n := n) (by simpa [D.pl] using hp))
  | n, _, _, .tup h r, hp => by
    cases n with
    | zero => simp [D.pl] at hp
    | succ n => exact .tup (sqT_sub e h) (py_dpA e r (n := n) (by simpa [D.pl] using hp))
  | _, _, _, .obj _ _ _, hp => by simp [D.pl] at hp
  | _, _, _, .scr _, hp => by simp [D.pl] at hp
  | _, _, _, .clo _ _ _ _, hp => by simp [D.pl] at hp
  | _, _, _, .exn _ _ _ _, hp => by simp [D.pl] at hp
  | _, _, _, .pv, hp => by simp [D.pl] at hp
theorem py_dpA {C : Cf} {B H : Hp} (e : Same B H) : ∀ {n : Nat} {vs : List V} {ds : List D}, RepA C B vs ds → D.plA n ds = true → DpAll C.K H vs (D.pyA ds)
  | _, _, _, .nil, _ => .nil
  | n, _, _, .cons h r, hp => by
    rw [D.plA, Bool.and_eq_true] at hp
    exact .cons (py_dp e h hp.1) (py_dpA e r hp.2)
end
mutual
theorem py_lay : ∀ (n : Nat) (a : D), a.pl n = true → a.py.plain = true ∧ a.py.depth ≤ n
  | _, .non, _ => ⟨rfl, Nat.zero_le _⟩
  | _, .bl _, _ => ⟨rfl, Nat.zero_le _⟩
  | _, .int _, _ => ⟨rfl, Nat.zero_le _⟩
  | _, .str _, _ => ⟨rfl, Nat.zero_le _⟩
  | n, .lst xs, h => by
    cases n with
    | zero => simp [D.pl] at h
    | succ n =>
      have q := py_layA n xs (by simpa [D.pl] using h)
      simp only [D.py, PyData.plain, PyData.depth]
      exact ⟨q.1, Nat.succ_le_succ q.2⟩
  | n, .tup xs, h => by
    cases n with
    | zero => simp [D.pl] at h
    | succ n =>
      have q := py_layA n xs (by simpa [D.pl] using h)
      simp only [D.py, PyData.plain, PyData.depth]
      exact ⟨q.1, Nat.succ_le_succ q.2⟩
  | _, .obj _ _, h => by simp [D.pl] at h
  | _, .scr _, h => by simp [D.pl] at h
  | _, .clo _, h => by simp [D.pl] at h
  | _, .exn _ _, h => by simp [D.pl] at h
  | _, .pv _, h => by simp [D.pl] at h
theorem py_layA : ∀ (n : Nat) (a : List D), D.plA n a = true → PyData.plainAll (D.pyA a) = true ∧ PyData.depthAll (D.pyA a) ≤ n
  | _, [], _ => ⟨rfl, Nat.zero_le _⟩
  | n, x :: xs, h => by
    rw [D.plA, Bool.and_eq_true] at h
    have h1 := py_lay n x h.1
    have h2 := py_layA n xs h.2
    simp only [D.pyA, PyData.plainAll, PyData.depthAll, Bool.and_eq_true]
    exact ⟨⟨h1.1, h2.1⟩, Nat.max_le.mpr ⟨h1.2, h2.2⟩⟩
end
/-- a value as data: a list that may change as it stands -/
def datOf (M : Mem) : VD → Option D
  | .d x => some x
  | .adr i => match M[i]? with
    | some (.lst ds) => some (.lst ds)
    | _ => none
theorem datOf_dp {C : Cf} {W : Wd} {H : Hp} {M : Mem} {x : V} {a : VD} {d : D} {n : Nat} (ok : Ok C W H M) (r : RepV C W x a) (h : datOf M a = some d) (hp : d.pl n = true) : Dp C.K H x d.py := by
  cases a with
  | d y =>
    have e : some y = some d := h
    cases e
    exact py_dp ok.sub r hp
  | adr i =>
    obtain ⟨q, rfl, hq⟩ := r
    have e1 : (match M[i]? with | some (MO.lst ds) => some (D.lst ds) | _ => none) = some d := h
    split at e1
    · rename_i ds e3
      cases e1
      obtain ⟨_, vs, h1, h2⟩ := ok.mo _ q _ hq e3
      cases n with
      | zero => simp [D.pl] at hp
      | succ n => exact .lst (SqL.of h1) (py_dpA ok.sub h2 (n := n) (by simpa [D.pl] using hp))
    · cases e1
section
variable {X : Cx} {C : Cf} {E : XK}
def r_eqP (K : PySem.W.Frag) (neg : Bool) : R2 := fun x y H Q => ∃ d e, Dp K H x d ∧ Dp K H y e ∧ d.plain = true ∧ e.plain = true ∧ d.depth ≤ 60 ∧ Q (.bl (if neg then !PyData.eqv d e else PyData.eqv d e)) H
theorem o_eqP (hu : X.A.units + 64 < cLine) : OpR X (compareOp .Eq) (r_eqP X.K false) := by
  intro pins s σ H x y v u Q I rx ry h
  obtain ⟨d, e, hd, he, sd, se, hl, q⟩ := h
  obtain ⟨as, r1⟩ := Dp.reads I d x v hd rx
  obtain ⟨bs, r2⟩ := Dp.reads I e y u he ry
  have h2 : min d.depth e.depth ≤ d.depth := Nat.min_le_left _ _
  exact SeqAt.eq_plain r1 r2 sd se (by omega) ⟨.bl _, H, I, rfl, q⟩
theorem o_neP (hu : X.A.units + 64 < cLine) : OpR X (compareOp .NotEq) (r_eqP X.K true) := by
  intro pins s σ H x y v u Q I rx ry h
  obtain ⟨d, e, hd, he, sd, se, hl, q⟩ := h
  obtain ⟨as, r1⟩ := Dp.reads I d x v hd rx
  obtain ⟨bs, r2⟩ := Dp.reads I e y u he ry
  have h2 : min d.depth e.depth ≤ d.depth := Nat.min_le_left _ _
  exact SeqAt.ne_plain r1 r2 sd se (by omega) ⟨.bl _, H, I, rfl, q⟩
def f_eqn (neg : Bool) (a b : VD) (M : Mem) : Res VD := match datOf M a, datOf M b with
  | some x, some y => if x.pl 20 && y.pl 20 then .ok (.d (.bl (if neg then !D.eqv x y else D.eqv x y))) M else .fail
  | _, _ => .fail
def f_eq := f_eqn false
def f_ne := f_eqn true
theorem p_eqn (neg : Bool) : OpS C E (r_eqP C.K neg) (f_eqn neg) := fun W H M x y a b Q ok ra rb p => by
  unfold f_eqn at p
  split at p
  · rename_i d e h1 h2
    split at p
    · rename_i h
      rw [Bool.and_eq_true] at h
      have l1 := py_lay 20 d h.1
      have l2 := py_lay 20 e h.2
      refine ⟨d.py, e.py, datOf_dp ok ra h1 h.1, datOf_dp ok rb h2 h.2, l1.1, l2.1, by omega, ?_⟩
      rw [py_eqv 20 20 d e h.1 h.2]
      exact post_ok p ok (.bl _)
    · exact p.elim
  · exact p.elim
/-! in -/
def r_inP (K : PySem.W.Frag) (neg : Bool) : R2 := fun x y H Q => ∃ d ds, Dp K H x d ∧ (Dp K H y (.list ds) ∨ Dp K H y (.tuple ds)) ∧ d.plain = true ∧ PyData.plainAll ds = true ∧ d.depth ≤ 60 ∧ Q (.bl (if neg then !ds.any fun z => PyData.eqv z d else ds.any fun z => PyData.eqv z d)) H
theorem o_inP (hu : X.A.units + 64 < cLine) : OpR X (compareOp .In) (r_inP X.K false) := by
  intro pins s σ H x y v u Q I rx ry h
  obtain ⟨d, ds, hd, he, sd, se, hl, q⟩ := h
  obtain ⟨as, r1⟩ := Dp.reads I d x v hd rx
  have h2 : min (PyData.depthAll ds) d.depth ≤ d.depth := Nat.min_le_right _ _
  rcases he with he | he
  · obtain ⟨bs, r2⟩ := Dp.reads I (.list ds) y u he ry
    exact SeqAt.in_list_data r2 r1 se sd (by omega) ⟨.bl _, H, I, rfl, q⟩
  · obtain ⟨bs, r2⟩ := Dp.reads I (.tuple ds) y u he ry
    exact SeqAt.in_tuple_data r2 r1 se sd (by omega) ⟨.bl _, H, I, rfl, q⟩
theorem o_niP (hu : X.A.units + 64 < cLine) : OpR X (compareOp .NotIn) (r_inP X.K true) := by
  intro pins s σ H x y v u Q I rx ry h
  obtain ⟨d, ds, hd, he, sd, se, hl, q⟩ := h
  obtain ⟨as, r1⟩ := Dp.reads I d x v hd rx
  have h2 : min (PyData.depthAll ds) d.depth ≤ d.depth := Nat.min_le_right _ _
  rcases he with he | he
  · obtain ⟨bs, r2⟩ := Dp.reads I (.list ds) y u he ry
    exact SeqAt.notIn_list_data r2 r1 se sd (by omega) ⟨.bl _, H, I, rfl, q⟩
  · obtain ⟨bs, r2⟩ := Dp.reads I (.tuple ds) y u he ry
    exact SeqAt.notIn_tuple_data r2 r1 se sd (by omega) ⟨.bl _, H, I, rfl, q⟩
def r_in (K : PySem.W.Frag) (neg : Bool) : R2 := fun x y H Q => (∃ (c : Nat) (z : Str), x = .str ⟨#[c]⟩ ∧ y = .str z ∧ Q (.bl (if neg then !decide (c ∈ z.cps.toList) else decide (c ∈ z.cps.toList))) H) ∨ r_inP K neg x y H Q
theorem o_in (hu : X.A.units + 64 < cLine) : OpR X (compareOp .In) (r_in X.K false) := OpR.or op_in_sign (o_inP hu)
theorem o_ni (hu : X.A.units + 64 < cLine) : OpR X (compareOp .NotIn) (r_in X.K true) := OpR.or op_notIn_sign (o_niP hu)
def f_inn (neg : Bool) : VD → VD → Mem → Res VD
  | .d (.str [c]), .d (.str t), M => .ok (.d (.bl (if neg then !decide (c ∈ t) else decide (c ∈ t)))) M
  | a, b, M => match datOf M a, seqOf M b with
    | some x, some ys => if x.pl 20 && D.plA 19 ys then .ok (.d (.bl (if neg then !ys.any fun z => D.eqv z x else ys.any fun z => D.eqv z x))) M else .fail
    | _, _ => .fail
def f_in := f_inn false
def f_ni := f_inn true
theorem py_any {x : D} (hx : x.pl 20 = true) : ∀ (ys : List D), D.plA 19 ys = true → ((D.pyA ys).any fun z => PyData.eqv z x.py) = ys.any fun z => D.eqv z x
  | [], _ => rfl
  | y :: ys, h => by
    rw [D.plA, Bool.and_eq_true] at h
    simp only [D.pyA, List.any_cons, py_eqv 19 20 y x h.1 hx, py_any hx ys h.2]
theorem seq_dp {W : Wd} {H : Hp} {M : Mem} {x : V} {a : VD} {ds : List D} {n : Nat} (ok : Ok C W H M) (r : RepV C W x a) (h : seqOf M a = some ds) (hp : D.plA n ds = true) : Dp C.K H x (.list (D.pyA ds)) ∨ Dp C.K H x (.tuple (D.pyA ds)) := by
  obtain ⟨p, vs, rfl, hs, hr⟩ := seq_read ok r h
  rcases hs with hs | hs
  · exact .inl (.lst hs (py_dpA ok.sub hr hp))
  · exact .inr (.tup hs (py_dpA ok.sub hr hp))
theorem p_inn (neg : Bool) : OpS C E (r_in C.K neg) (f_inn neg) := fun W H M x y a b Q ok ra rb p => by
  unfold f_inn at p
  split at p
  · rename_i c t
    cases inv_str ra
    cases inv_str rb
    refine .inl ⟨c, enc t, rfl, rfl, ?_⟩
    have e : (enc t).cps.toList = t := by simp [enc]
    rw [e]
    exact post_ok p ok (.bl _)
  · split at p
    · rename_i x' ys h1 h2
      split at p
      · rename_i h
        rw [Bool.and_eq_true] at h
        have l1 := py_lay 20 x' h.1
        have l2 := py_layA 19 ys h.2
        refine .inr ⟨x'.py, D.pyA ys, datOf_dp ok ra h1 h.1, seq_dp ok rb h2 h.2, l1.1, l2.1, by omega, ?_⟩
        rw [py_any h.1 ys h.2]
        exact post_ok p ok (.bl _)
      · exact p.elim
    · exact p.elim
/-! is None -/
def f_is (neg : Bool) : VD → VD → Mem → Res VD
  | .d x, .d .non, M => .ok (.d (.bl (match x with | .non => !neg | _ => neg))) M
  | .adr _, .d .non, M => .ok (.d (.bl neg)) M
  | _, _, _ => .fail
theorem is_val {W : Wd} {x : V} {d : D} (r : RepV C W x (.d d)) : decide (x = V.non) = (match d with | .non => true | _ => false) := by
  cases (show Rep C W.B x d from r) <;> simp
theorem p_is : OpS C E (fun x y H Q => y = .non ∧ Q (.bl (decide (x = .non))) H) (f_is false) := fun W H M x y a b Q ok ra rb p => by
  unfold f_is at p
  split at p
  · rename_i d
    cases inv_non rb
    refine ⟨rfl, ?_⟩
    rw [is_val ra]
    cases d <;> exact post_ok p ok (.bl _)
  · cases inv_non rb
    obtain ⟨q, rfl, _⟩ := ra
    refine ⟨rfl, ?_⟩
    simp
    exact post_ok p ok (.bl _)
  · exact p.elim
theorem p_isnot : OpS C E (fun x y H Q => y = .non ∧ Q (.bl (!decide (x = .non))) H) (f_is true) := fun W H M x y a b Q ok ra rb p => by
  unfold f_is at p
  split at p
  · rename_i d
    cases inv_non rb
    refine ⟨rfl, ?_⟩
    rw [is_val ra]
    cases d <;> exact post_ok p ok (.bl _)
  · cases inv_non rb
    obtain ⟨q, rfl, _⟩ := ra
    refine ⟨rfl, ?_⟩
    simp
    exact post_ok p ok (.bl _)
  · exact p.elim
end
end G

namespace G
open PySem PySem.Spec PyProof.Rows L2
/-- where a text stands -/
structure Cxx (X : Cx) (C : Cf) (E : XK) (CX : CXT) (k : Nat) : Prop where
  K : C.K = X.K
  calm : X.calm = true
  nd : X.N.Nodup
  own : PassesOwn (model X.prog X.w) X.A X.env X.xe
  pas : Passes CX X E
  pas0 : ∀ Y : Cx, Y.prog = X.prog → Y.w = X.w → Passes CX Y E0
  hr : Room k X.A
  tk : Takes X (fun cls d _ H => E cls d H)
section
variable {X : Cx} {C : Cf} {E : XK} {CX : CXT} {k : Nat}
theorem Cxx.hu (c : Cxx X C E CX k) : X.A.units + 64 < cLine := c.hr.units
theorem x_lt {a b : Expr} {ma mb : Mx VD} {pos : Pos} (ha : PX X C E a ma) (hb : PX X C E b mb) : PX X C E (.Compare a [.Lt] [b] pos) (e_op f_lt ma mb) := x_cmp o_lt p_cmp ha hb
theorem x_le {a b : Expr} {ma mb : Mx VD} {pos : Pos} (ha : PX X C E a ma) (hb : PX X C E b mb) : PX X C E (.Compare a [.LtE] [b] pos) (e_op f_le ma mb) := x_cmp o_le p_cmp ha hb
theorem x_gt {a b : Expr} {ma mb : Mx VD} {pos : Pos} (ha : PX X C E a ma) (hb : PX X C E b mb) : PX X C E (.Compare a [.Gt] [b] pos) (e_op f_gt ma mb) := x_cmp o_gt p_cmp ha hb
theorem x_ge {a b : Expr} {ma mb : Mx VD} {pos : Pos} (ha : PX X C E a ma) (hb : PX X C E b mb) : PX X C E (.Compare a [.GtE] [b] pos) (e_op f_ge ma mb) := x_cmp o_ge p_cmp ha hb
theorem x_eq {a b : Expr} {ma mb : Mx VD} {pos : Pos} (c : Cxx X C E CX k) (ha : PX X C E a ma) (hb : PX X C E b mb) : PX X C E (.Compare a [.Eq] [b] pos) (e_op f_eq ma mb) := x_cmp (by rw [c.K]; exact o_eqP c.hu) (p_eqn false) ha hb
theorem x_ne {a b : Expr} {ma mb : Mx VD} {pos : Pos} (c : Cxx X C E CX k) (ha : PX X C E a ma) (hb : PX X C E b mb) : PX X C E (.Compare a [.NotEq] [b] pos) (e_op f_ne ma mb) := x_cmp (by rw [c.K]; exact o_neP c.hu) (p_eqn true) ha hb
theorem x_in {a b : Expr} {ma mb : Mx VD} {pos : Pos} (c : Cxx X C E CX k) (ha : PX X C E a ma) (hb : PX X C E b mb) (hm : behindInMarks .In b = false := by with_unfolding_all rfl) : PX X C E (.Compare a [.In] [b] pos) (e_op f_in ma mb) := x_cmp (by rw [c.K]; exact o_in c.hu) (p_inn false) ha hb hm
theorem x_ni {a b : Expr} {ma mb : Mx VD} {pos : Pos} (c : Cxx X C E CX k) (ha : PX X C E a ma) (hb : PX X C E b mb) (hm : behindInMarks .NotIn b = false := by with_unfolding_all rfl) : PX X C E (.Compare a [.NotIn] [b] pos) (e_op f_ni ma mb) := x_cmp (by rw [c.K]; exact o_ni c.hu) (p_inn true) ha hb hm
theorem x_is {a b : Expr} {ma mb : Mx VD} {pos : Pos} (ha : PX X C E a ma) (hb : PX X C E b mb) : PX X C E (.Compare a [.Is] [b] pos) (e_op (f_is false) ma mb) := x_cmp op_isN p_is ha hb
theorem x_isnot {a b : Expr} {ma mb : Mx VD} {pos : Pos} (ha : PX X C E a ma) (hb : PX X C E b mb) : PX X C E (.Compare a [.IsNot] [b] pos) (e_op (f_is true) ma mb) := x_cmp op_notN p_isnot ha hb
/-! tests -/
def truth (M : Mem) : VD → Option Bool
  | .d .non => some false
  | .d (.bl b) => some b
  | .d (.int i) => some (i != 0)
  | .d (.str s) => if s.length ≤ lim then some (!s.isEmpty) else none
  | .d (.obj _ _) => none
  | a => (seqOf M a).map fun ds => !ds.isEmpty
theorem truth_ok {W : Wd} {H : Hp} {M : Mem} {x : V} {a : VD} {b : Bool} (ok : Ok C W H M) (r : RepV C W x a) (h : truth M a = some b) : TruV C.K x H b := by
  unfold truth at h
  have sq : ∀ {z}, seqOf M z = seqOf M a → (seqOf M z).map (fun ds => !ds.isEmpty) = some b → TruV C.K x H b := fun {z} e h => by
    rw [e] at h
    cases q : seqOf M a with
    | none =>
      rw [q] at h
      cases h
    | some ds =>
      rw [q] at h
      have h : (!ds.isEmpty) = b := Option.some.inj h
      obtain ⟨p, vs, rfl, hs, hr⟩ := seq_read ok r q
      have e : (!ds.isEmpty) = !vs.isEmpty := by
        cases hr <;> rfl
      rcases hs with hs | hs
      · exact .inl ⟨vs, hs, h.symm.trans e⟩
      · exact .inr (.inl ⟨vs, hs, h.symm.trans e⟩)
  split at h
  · cases inv_non r
    exact (Option.some.inj h).symm
  · cases inv_bl r
    exact (Option.some.inj h).symm
  · cases inv_int r
    exact (Option.some.inj h).symm
  · rename_i s
    split at h
    · rename_i hl
      cases inv_str r
      refine ⟨by rw [enc_len]; exact lim_le hl, ?_⟩
      rw [← Option.some.inj h, enc_len]
      cases s <;> rfl
    · cases h
  · cases h
  · exact sq rfl h
def e_truth (m : Mx VD) : Mx Bool := fun ρ M => (m ρ M).bind fun v M1 => match truth M1 v with
  | some b => .ok b M1
  | none => .fail
theorem sem_truth {ta : TE} {ma : Mx VD} (ha : Sem C E ta ma) : SemT C E (fun σ H Q => ta σ H fun x H' => ∃ k, TruV C.K x H' k ∧ Q k H') (e_truth ma) := fun W σ H ρ M Q ok sl p => by
  refine ha W σ H ρ M _ ok sl (post_bind p fun a M1 W1 H1 x l1 ok1 ra p1 => ?_)
  split at p1
  · rename_i b h
    exact ⟨b, truth_ok ok1 ra h, post_ok p1 ok1 rfl⟩
  · exact p1.elim
theorem t_truth {a : Expr} {ma : Mx VD} (hK : C.K = X.K) (ha : PX X C E a ma) (he : ∀ whole, isTrue a X.env whole = (do let v ← whole; standAt a.pos; holding [v] (truthy v)) := by intro _; rfl) : PXT X C E a (e_truth ma) := by
  obtain ⟨ta, pa, sa⟩ := ha
  have q := sem_truth sa
  rw [hK] at q
  exact ⟨_, pt_truth pa he, q⟩
def asB (v : VD) (M : Mem) : Res Bool := match v with
  | .d (.bl b) => .ok b M
  | _ => .fail
def e_asB (m : Mx VD) : Mx Bool := fun ρ M => (m ρ M).bind asB
theorem sem_test {ta : TE} {ma : Mx VD} (ha : Sem C E ta ma) : SemT C E (tTest ta) (e_asB ma) := fun W σ H ρ M Q ok sl p => by
  refine ha W σ H ρ M _ ok sl (post_bind p fun a M1 W1 H1 x l1 ok1 ra p1 => ?_)
  unfold asB at p1
  split at p1
  · cases inv_bl ra
    exact ⟨_, rfl, post_ok p1 ok1 rfl⟩
  · exact p1.elim
theorem t_cmp {op : CmpOp} {r : R2} {f} {a b : Expr} {ma mb : Mx VD} {pos : Pos} (ho : OpR X (compareOp op) r) (hr : OpS C E r f) (ha : PX X C E a ma) (hb : PX X C E b mb) (hm : behindInMarks op b = false := by first | rfl | exact nomark _) : PXT X C E (.Compare a [op] [b] pos) (e_asB (e_op f ma mb)) := by
  obtain ⟨ta, pa, sa⟩ := ha
  obtain ⟨tb, pb, sb⟩ := hb
  exact ⟨_, pt_cmpR ho pa pb hm, sem_test (sem_op hr sa sb)⟩
theorem t_lt {a b : Expr} {ma mb : Mx VD} {pos : Pos} (ha : PX X C E a ma) (hb : PX X C E b mb) : PXT X C E (.Compare a [.Lt] [b] pos) (e_asB (e_op f_lt ma mb)) := t_cmp o_lt p_cmp ha hb
theorem t_le {a b : Expr} {ma mb : Mx VD} {pos : Pos} (ha : PX X C E a ma) (hb : PX X C E b mb) : PXT X C E (.Compare a [.LtE] [b] pos) (e_asB (e_op f_le ma mb)) := t_cmp o_le p_cmp ha hb
theorem t_gt {a b : Expr} {ma mb : Mx VD} {pos : Pos} (ha : PX X C E a ma) (hb : PX X C E b mb) : PXT X C E (.Compare a [.Gt] [b] pos) (e_asB (e_op f_gt ma mb)) := t_cmp o_gt p_cmp ha hb
theorem t_ge {a b : Expr} {ma mb : Mx VD} {pos : Pos} (ha : PX X C E a ma) (hb : PX X C E b mb) : PXT X C E (.Compare a [.GtE] [b] pos) (e_asB (e_op f_ge ma mb)) := t_cmp o_ge p_cmp ha hb
theorem t_eq {a b : Expr} {ma mb : Mx VD} {pos : Pos} (c : Cxx X C E CX k) (ha : PX X C E a ma) (hb : PX X C E b mb) : PXT X C E (.Compare a [.Eq] [b] pos) (e_asB (e_op f_eq ma mb)) := t_cmp (by rw [c.K]; exact o_eqP c.hu) (p_eqn false) ha hb
theorem t_ne {a b : Expr} {ma mb : Mx VD} {pos : Pos} (c : Cxx X C E CX k) (ha : PX X C E a ma) (hb : PX X C E b mb) : PXT X C E (.Compare a [.NotEq] [b] pos) (e_asB (e_op f_ne ma mb)) := t_cmp (by rw [c.K]; exact o_neP c.hu) (p_eqn true) ha hb
theorem t_in {a b : Expr} {ma mb : Mx VD} {pos : Pos} (c : Cxx X C E CX k) (ha : PX X C E a ma) (hb : PX X C E b mb) (hm : behindInMarks .In b = false := by with_unfolding_all rfl) : PXT X C E (.Compare a [.In] [b] pos) (e_asB (e_op f_in ma mb)) := t_cmp (by rw [c.K]; exact o_in c.hu) (p_inn false) ha hb hm
theorem t_ni {a b : Expr} {ma mb : Mx VD} {pos : Pos} (c : Cxx X C E CX k) (ha : PX X C E a ma) (hb : PX X C E b mb) (hm : behindInMarks .NotIn b = false := by with_unfolding_all rfl) : PXT X C E (.Compare a [.NotIn] [b] pos) (e_asB (e_op f_ni ma mb)) := t_cmp (by rw [c.K]; exact o_ni c.hu) (p_inn true) ha hb hm
theorem t_is {a b : Expr} {ma mb : Mx VD} {pos : Pos} (ha : PX X C E a ma) (hb : PX X C E b mb) : PXT X C E (.Compare a [.Is] [b] pos) (e_asB (e_op (f_is false) ma mb)) := t_cmp op_isN p_is ha hb
theorem t_isnot {a b : Expr} {ma mb : Mx VD} {pos : Pos} (ha : PX X C E a ma) (hb : PX X C E b mb) : PXT X C E (.Compare a [.IsNot] [b] pos) (e_asB (e_op (f_is true) ma mb)) := t_cmp op_notN p_isnot ha hb
/-! a op b op c -/
def e_chain (f g : VD → VD → Mem → Res VD) (a b c : Mx VD) : Mx VD := fun ρ M => (a ρ M).bind fun x M1 => (b ρ M1).bind fun y M2 => (f x y M2).bind fun z M3 => (asB z M3).bind fun q M4 => if q then (c ρ M4).bind fun w M5 => g y w M5 else .ok (.d (.bl false)) M4
theorem sem_chain {r r' : R2} {ta tb tc : TE} {f g} {ma mb mc : Mx VD} (hr : OpS C E r f) (hr' : OpS C E r' g) (ha : Sem C E ta ma) (hb : Sem C E tb mb) (hc : Sem C E tc mc) : Sem C E (tChain r r' ta tb tc) (e_chain f g ma mb mc) := fun W σ H ρ M Q ok sl p => by
  refine ha W σ H ρ M _ ok sl (post_bind p fun a M1 W1 H1 x l1 ok1 ra p1 => ?_)
  refine hb W1 σ H1 ρ M1 _ ok1 (sl.mono l1.le) (post_bind p1 fun b M2 W2 H2 y l2 ok2 rb p2 => ?_)
  refine hr W2 H2 M2 x y a b _ ok2 (ra.mono l2.le) rb (post_bind p2 fun z M3 W3 H3 v l3 ok3 rz p3 => ?_)
  unfold asB at p3
  split at p3
  · rename_i q
    cases inv_bl rz
    refine ⟨q, rfl, ?_⟩
    cases q with
    | true => exact hc W3 σ H3 ρ M3 _ ok3 (((sl.mono l1.le).mono l2.le).mono l3.le) (post_bind p3 fun w M5 W5 H5 u l5 ok5 rw p5 => hr' W5 H5 M5 y u b w Q ok5 ((rb.mono l3.le).mono l5.le) rw p5)
    | false => exact post_ok p3 ok3 (.bl false)
  · exact p3.elim
theorem x_chain {op op' : CmpOp} {r r' : R2} {f g} {a b d : Expr} {ma mb mc : Mx VD} {pos : Pos} (ho : OpR X (compareOp op) r) (ho' : OpR X (compareOp op') r') (hr : OpS C E r f) (hr' : OpS C E r' g) (ha : PX X C E a ma) (hb : PX X C E b mb) (hc : PX X C E d mc) (hm : lastMarks [op, op'] [b, d] = false := by with_unfolding_all rfl) :
    PX X C E (.Compare a [op, op'] [b, d] pos) (e_chain f g ma mb mc) := by
  obtain ⟨ta, pa, sa⟩ := ha
  obtain ⟨tb, pb, sb⟩ := hb
  obtain ⟨tc, pc, sc⟩ := hc
  exact ⟨_, pe_chain ho ho' pa pb pc hm, sem_chain hr hr' sa sb sc⟩
theorem t_chain {op op' : CmpOp} {r r' : R2} {f g} {a b d : Expr} {ma mb mc : Mx VD} {pos : Pos} (ho : OpR X (compareOp op) r) (ho' : OpR X (compareOp op') r') (hr : OpS C E r f) (hr' : OpS C E r' g) (ha : PX X C E a ma) (hb : PX X C E b mb) (hc : PX X C E d mc) (hm : lastMarks [op, op'] [b, d] = false := by with_unfolding_all rfl) :
    PXT X C E (.Compare a [op, op'] [b, d] pos) (e_asB (e_chain f g ma mb mc)) := by
  obtain ⟨ta, pa, sa⟩ := ha
  obtain ⟨tb, pb, sb⟩ := hb
  obtain ⟨tc, pc, sc⟩ := hc
  exact ⟨_, pt_chain ho ho' pa pb pc hm, sem_test (sem_chain hr hr' sa sb sc)⟩
/-! and, or, not as tests -/
def e_andT (a b : Mx Bool) : Mx Bool := fun ρ M => (a ρ M).bind fun c M1 => if c then b ρ M1 else .ok false M1
def e_orT (a b : Mx Bool) : Mx Bool := fun ρ M => (a ρ M).bind fun c M1 => if c then .ok true M1 else b ρ M1
def e_notT (a : Mx Bool) : Mx Bool := fun ρ M => (a ρ M).bind fun c M1 => .ok (!c) M1
theorem sem_andT {ta tb : TT} {ma mb : Mx Bool} (ha : SemT C E ta ma) (hb : SemT C E tb mb) : SemT C E (tAnd ta tb) (e_andT ma mb) := fun W σ H ρ M Q ok sl p => by
  refine ha W σ H ρ M _ ok sl (post_bind p fun c M1 W1 H1 x l1 ok1 ra p1 => ?_)
  cases (show x = c from ra)
  cases c with
  | true => exact hb W1 σ H1 ρ M1 Q ok1 (sl.mono l1.le) p1
  | false => exact post_ok p1 ok1 rfl
theorem sem_orT {ta tb : TT} {ma mb : Mx Bool} (ha : SemT C E ta ma) (hb : SemT C E tb mb) : SemT C E (tOr ta tb) (e_orT ma mb) := fun W σ H ρ M Q ok sl p => by
  refine ha W σ H ρ M _ ok sl (post_bind p fun c M1 W1 H1 x l1 ok1 ra p1 => ?_)
  cases (show x = c from ra)
  cases c with
  | true => exact post_ok p1 ok1 rfl
  | false => exact hb W1 σ H1 ρ M1 Q ok1 (sl.mono l1.le) p1
theorem sem_notT {ta : TT} {ma : Mx Bool} (ha : SemT C E ta ma) : SemT C E (tNot ta) (e_notT ma) := fun W σ H ρ M Q ok sl p => by
  refine ha W σ H ρ M _ ok sl (post_bind p fun c M1 W1 H1 x l1 ok1 ra p1 => ?_)
  cases (show x = c from ra)
  exact post_ok p1 ok1 rfl
theorem w_and1 {a : Expr} {ma : Mx Bool} {pos : Pos} (ha : PXT X C E a ma) : PXW X C E (.BoolOp .And [a] pos) ma := by
  obtain ⟨ta, pa, sa⟩ := ha
  exact ⟨_, pw_and1 pa, sa⟩
theorem w_or1 {a : Expr} {ma : Mx Bool} {pos : Pos} (ha : PXT X C E a ma) : PXW X C E (.BoolOp .Or [a] pos) ma := by
  obtain ⟨ta, pa, sa⟩ := ha
  exact ⟨_, pw_or1 pa, sa⟩
theorem w_and {a b : Expr} {rest : List Expr} {ma mb : Mx Bool} {pos : Pos} (ha : PXT X C E a ma) (hb : PXW X C E (.BoolOp .And (b :: rest) pos) mb) : PXW X C E (.BoolOp .And (a :: b :: rest) pos) (e_andT ma mb) := by
  obtain ⟨ta, pa, sa⟩ := ha
  obtain ⟨tb, pb, sb⟩ := hb
  exact ⟨_, pw_and pa pb, sem_andT sa sb⟩
theorem w_or {a b : Expr} {rest : List Expr} {ma mb : Mx Bool} {pos : Pos} (ha : PXT X C E a ma) (hb : PXW X C E (.BoolOp .Or (b :: rest) pos) mb) : PXW X C E (.BoolOp .Or (a :: b :: rest) pos) (e_orT ma mb) := by
  obtain ⟨ta, pa, sa⟩ := ha
  obtain ⟨tb, pb, sb⟩ := hb
  exact ⟨_, pw_or pa pb, sem_orT sa sb⟩
theorem t_w {a : Expr} {ma : Mx Bool} (ha : PXW X C E a ma) : PXT X C E a ma := by
  obtain ⟨ta, pa, sa⟩ := ha
  exact ⟨_, pa.pt, sa⟩
theorem t_not {a : Expr} {ma : Mx Bool} {pos : Pos} (ha : PXT X C E a ma) : PXT X C E (.UnaryOp .Not a pos) (e_notT ma) := by
  obtain ⟨ta, pa, sa⟩ := ha
  exact ⟨_, pt_not pa, sem_notT sa⟩
/-! .. as values -/
def e_and (a b : Mx VD) : Mx VD := fun ρ M => (a ρ M).bind fun v M1 => (asB v M1).bind fun c M2 => if c then b ρ M2 else .ok (.d (.bl false)) M2
def e_or (a b : Mx VD) : Mx VD := fun ρ M => (a ρ M).bind fun v M1 => (asB v M1).bind fun c M2 => if c then .ok (.d (.bl true)) M2 else b ρ M2
def e_not (a : Mx VD) : Mx VD := fun ρ M => (a ρ M).bind fun v M1 => (asB v M1).bind fun c M2 => .ok (.d (.bl (!c))) M2
theorem x_one {op} {a : Expr} {ma : Mx VD} {pos : Pos} (ha : PX X C E a ma) : PX X C E (.BoolOp op [a] pos) ma := by
  obtain ⟨ta, pa, sa⟩ := ha
  exact ⟨_, pe_one pa, sa⟩
theorem x_and {a b : Expr} {rest : List Expr} {ma mb : Mx VD} {pos : Pos} (ha : PX X C E a ma) (hb : PX X C E (.BoolOp .And (b :: rest) pos) mb) : PX X C E (.BoolOp .And (a :: b :: rest) pos) (e_and ma mb) := by
  obtain ⟨ta, pa, sa⟩ := ha
  obtain ⟨tb, pb, sb⟩ := hb
  refine ⟨_, pe_and pa pb, fun W σ H ρ M Q ok sl p => ?_⟩
  refine sa W σ H ρ M _ ok sl (post_bind p fun c M1 W1 H1 x l1 ok1 ra p1 => ?_)
  unfold asB at p1
  split at p1
  · rename_i q
    cases inv_bl ra
    refine ⟨q, rfl, ?_⟩
    cases q with
    | true => exact sb W1 σ H1 ρ M1 Q ok1 (sl.mono l1.le) p1
    | false => exact post_ok p1 ok1 (.bl false)
  · exact p1.elim
theorem x_or {a b : Expr} {rest : List Expr} {ma mb : Mx VD} {pos : Pos} (ha : PX X C E a ma) (hb : PX X C E (.BoolOp .Or (b :: rest) pos) mb) : PX X C E (.BoolOp .Or (a :: b :: rest) pos) (e_or ma mb) := by
  obtain ⟨ta, pa, sa⟩ := ha
  obtain ⟨tb, pb, sb⟩ := hb
  refine ⟨_, pe_or pa pb, fun W σ H ρ M Q ok sl p => ?_⟩
  refine sa W σ H ρ M _ ok sl (post_bind p fun c M1 W1 H1 x l1 ok1 ra p1 => ?_)
  unfold asB at p1
  split at p1
  · rename_i q
    cases inv_bl ra
    refine ⟨q, rfl, ?_⟩
    cases q with
    | true => exact post_ok p1 ok1 (.bl true)
    | false => exact sb W1 σ H1 ρ M1 Q ok1 (sl.mono l1.le) p1
  · exact p1.elim
theorem x_not {a : Expr} {ma : Mx VD} {pos : Pos} (ha : PX X C E a ma) : PX X C E (.UnaryOp .Not a pos) (e_not ma) := by
  obtain ⟨ta, pa, sa⟩ := ha
  refine ⟨_, pe_not pa, fun W σ H ρ M Q ok sl p => ?_⟩
  refine sa W σ H ρ M _ ok sl (post_bind p fun c M1 W1 H1 x l1 ok1 ra p1 => ?_)
  unfold asB at p1
  split at p1
  · rename_i q
    cases inv_bl ra
    exact ⟨q, rfl, post_ok p1 ok1 (.bl _)⟩
  · exact p1.elim
def e_if (t : Mx Bool) (a b : Mx VD) : Mx VD := fun ρ M => (t ρ M).bind fun c M1 => if c then a ρ M1 else b ρ M1
theorem x_if {t a b : Expr} {mt : Mx Bool} {ma mb : Mx VD} {pos : Pos} (ht : PXT X C E t mt) (ha : PX X C E a ma) (hb : PX X C E b mb) : PX X C E (.IfExp t a b pos) (e_if mt ma mb) := by
  obtain ⟨tt, pt, st⟩ := ht
  obtain ⟨ta, pa, sa⟩ := ha
  obtain ⟨tb, pb, sb⟩ := hb
  refine ⟨_, pe_ifExp pt pa pb, fun W σ H ρ M Q ok sl p => ?_⟩
  refine st W σ H ρ M _ ok sl (post_bind p fun c M1 W1 H1 x l1 ok1 ra p1 => ?_)
  cases (show x = c from ra)
  cases c with
  | true => exact sa W1 σ H1 ρ M1 Q ok1 (sl.mono l1.le) p1
  | false => exact sb W1 σ H1 ρ M1 Q ok1 (sl.mono l1.le) p1
theorem x_neg {a : Expr} {i : Int} {j} {p1 pos : Pos} : PX X C E (.UnaryOp .USub (.Constant (.int i) j p1) pos) (e_c (.int (-i))) := ⟨_, pe_un un_neg pe_int, fun W σ H ρ M Q ok sl p => ⟨i, rfl, post_ok p ok (.int _)⟩⟩
/-! arguments, displays -/
def a_nil : Mx (List VD) := fun _ M => .ok [] M
def a_cons (a : Mx VD) (r : Mx (List VD)) : Mx (List VD) := fun ρ M => (a ρ M).bind fun v M1 => (r ρ M1).bind fun vs M2 => .ok (v :: vs) M2
theorem xa_nil : PXA X C E [] a_nil := ⟨_, pa_nil, fun W σ H ρ M Q ok sl p => post_ok p ok .nil⟩
theorem xa_cons {e : Expr} {es : List Expr} {m : Mx VD} {ms : Mx (List VD)} (ha : PX X C E e m) (hr : PXA X C E es ms) (hs : starEach (e :: es) X.env = (false, eval e X.env) :: starEach es X.env := by rfl) : PXA X C E (e :: es) (a_cons m ms) := by
  obtain ⟨ta, pa, sa⟩ := ha
  obtain ⟨tb, pb, sb⟩ := hr
  refine ⟨_, pa_cons pa pb hs, fun W σ H ρ M Q ok sl p => ?_⟩
  refine sa W σ H ρ M _ ok sl (post_bind p fun a M1 W1 H1 x l1 ok1 ra p1 => ?_)
  refine sb W1 σ H1 ρ M1 _ ok1 (sl.mono l1.le) (post_bind p1 fun b M2 W2 H2 y l2 ok2 rb p2 => ?_)
  exact post_ok p2 ok2 (.cons (ra.mono l2.le) rb)
def mkL (vs : List VD) (M : Mem) : Res VD := match dats vs with
  | some ds => if ds.length ≤ lim then .ok (.d (.lst ds)) M else .fail
  | none => .fail
def mkT (vs : List VD) (M : Mem) : Res VD := match dats vs with
  | some ds => if ds.length ≤ lim then .ok (.d (.tup ds)) M else .fail
  | none => .fail
def e_lst (ms : Mx (List VD)) : Mx VD := fun ρ M => (ms ρ M).bind mkL
def e_tup (ms : Mx (List VD)) : Mx VD := fun ρ M => (ms ρ M).bind mkT
theorem x_lst {es : List Expr} {ms : Mx (List VD)} {pos : Pos} (h : PXA X C E es ms) : PX X C E (.List es pos) (e_lst ms) := by
  obtain ⟨ta, pa, sa⟩ := h
  refine ⟨_, pe_lst pa, fun W σ H ρ M Q ok sl p => ?_⟩
  refine sa W σ H ρ M _ ok sl (post_bind p fun a M1 W1 H1 x l1 ok1 ra p1 => ?_)
  unfold mkL at p1
  split at p1
  · rename_i ds e
    split at p1
    · rename_i hl
      have r := ra.dat e
      exact ⟨by rw [r.length]; exact lim_le hl, post_lst p1 ok1 r⟩
    · exact p1.elim
  · exact p1.elim
theorem x_tup {es : List Expr} {ms : Mx (List VD)} {x1} {pos : Pos} (h : PXA X C E es ms) : PX X C E (.Tuple es x1 pos) (e_tup ms) := by
  obtain ⟨ta, pa, sa⟩ := h
  refine ⟨_, pe_tup pa, fun W σ H ρ M Q ok sl p => ?_⟩
  refine sa W σ H ρ M _ ok sl (post_bind p fun a M1 W1 H1 x l1 ok1 ra p1 => ?_)
  unfold mkT at p1
  split at p1
  · rename_i ds e
    split at p1
    · rename_i hl
      have r := ra.dat e
      exact ⟨by rw [r.length]; exact lim_le hl, post_tup p1 ok1 r⟩
    · exact p1.elim
  · exact p1.elim
/-- a display that will change -/
def e_lstO (ms : Mx (List VD)) : Mx VD := fun ρ M => (ms ρ M).bind fun vs M1 => match dats vs with
  | some ds => if ds.length ≤ lim then .ok (.adr M1.length) (M1 ++ [.lst ds]) else .fail
  | none => .fail
theorem post_lstO {W : Wd} {H : Hp} {M : Mem} {Q : VK} {vs : List V} {ds : List D} (p : post C (relV C) E Q W H (.ok (.adr M.length) (M ++ [.lst ds]))) (ok : Ok C W H M) (r : RepA C W.B vs ds) : ∀ q, H q = none → Q (.ref q) (upd H q (.lst vs)) := fun q hq => by
  obtain ⟨ok', l⟩ := ok.newM (o := .lst vs) (m := .lst ds) hq ⟨ok.notB hq, vs, upd_same, r⟩
  exact p _ _ _ (Step.newM ok hq) ok' ⟨q, rfl, by rw [← ok.len]; simp⟩
theorem x_lstO {es : List Expr} {ms : Mx (List VD)} {pos : Pos} (h : PXA X C E es ms) : PX X C E (.List es pos) (e_lstO ms) := by
  obtain ⟨ta, pa, sa⟩ := h
  refine ⟨_, pe_lst pa, fun W σ H ρ M Q ok sl p => ?_⟩
  refine sa W σ H ρ M _ ok sl (post_bind p fun a M1 W1 H1 x l1 ok1 ra p1 => ?_)
  split at p1
  · rename_i ds e
    split at p1
    · rename_i hl
      have r := ra.dat e
      exact ⟨by rw [r.length]; exact lim_le hl, post_lstO p1 ok1 r⟩
    · exact p1.elim
  · exact p1.elim
/-! subscripts -/
theorem atI_get {α : Type} {xs : List α} {i : Int} {x : α} (h : atI xs i = some x) : ∃ j : Nat, ixN xs.length i = some j ∧ xs[j]? = some x := by
  unfold atI at h
  cases q : ixN xs.length i with
  | none =>
    rw [q] at h
    cases h
  | some j =>
    rw [q] at h
    exact ⟨j, rfl, h⟩
theorem RepA.atI {B : Hp} {vs : List V} {ds : List D} {i : Int} {d : D} (r : RepA C B vs ds) (h : L2.atI ds i = some d) : ∃ v, L2.atI vs i = some v ∧ Rep C B v d := by
  obtain ⟨j, h1, h2⟩ := atI_get h
  obtain ⟨v, h3, h4⟩ := r.get h2
  refine ⟨v, ?_, h4⟩
  unfold L2.atI
  rw [r.length, h1]
  exact h3
def f_ix : VD → VD → Mem → Res VD
  | .d (.str s), .d (.int i), M => if s.length ≤ lim then match L2.atI s i with
    | some c => .ok (.d (.str [c])) M
    | none => .fail else .fail
  | a, .d (.int i), M => match seqOf M a with
    | some ds => match L2.atI ds i with
      | some d => .ok (.d d) M
      | none => .fail
    | none => .fail
  | _, _, _ => .fail
theorem p_ix : OpS C E (rIx C.K) f_ix := fun W H M x y a b Q ok ra rb p => by
  unfold f_ix at p
  split at p
  · rename_i s i
    split at p
    · rename_i hl
      split at p
      · rename_i c e
        cases inv_str ra
        cases inv_int rb
        have e1 : (enc s).cps.toList = s := by simp [enc]
        refine .inr (.inr ⟨enc s, i, c, rfl, rfl, by rw [enc_len]; exact lim_le hl, by rw [e1]; exact e, ?_⟩)
        exact post_ok p ok (Rep.str [c])
      · exact p.elim
    · exact p.elim
  · rename_i i
    split at p
    · rename_i ds e
      split at p
      · rename_i d e2
        cases inv_int rb
        obtain ⟨q, vs, rfl, hs, hr⟩ := seq_read ok ra e
        obtain ⟨v, h1, h2⟩ := hr.atI e2
        rcases hs with hs | hs
        · exact .inl ⟨_, _, _, _, rfl, rfl, hs, h1, post_ok p ok h2⟩
        · exact .inr (.inl ⟨_, _, _, _, rfl, rfl, hs, h1, post_ok p ok h2⟩)
      · exact p.elim
    · exact p.elim
  · exact p.elim
theorem x_ix {a b : Expr} {ma mb : Mx VD} {pos : Pos} (hK : C.K = X.K) (ha : PX X C E a ma) (hb : PX X C E b mb) (hp : PlainIx b := by exact fun _ _ => rfl) : PX X C E (.Subscript a b pos) (e_op f_ix ma mb) := by
  obtain ⟨ta, pa, sa⟩ := ha
  obtain ⟨tb, pb, sb⟩ := hb
  have q := sem_op (E := E) p_ix sa sb
  rw [hK] at q
  exact ⟨_, pe_ix ix_seq pa pb hp, q⟩
/-! slices -/
def SemO (C : Cf) (E : XK) (to : TO) (m : Mx (Option Int)) : Prop := ∀ W σ H ρ M Q, Ok C W H M → Slots C W σ ρ → post C (fun _ x y => x = y) E Q W H (m ρ M) → to σ H Q
structure PXO (X : Cx) (C : Cf) (E : XK) (e : Option Expr) (m : Mx (Option Int)) : Prop where
  ex : ∃ to, PO X e to ∧ SemO C E to m
def o_none : Mx (Option Int) := fun _ M => .ok none M
def o_some (a : Mx VD) : Mx (Option Int) := fun ρ M => (a ρ M).bind fun v M1 => match v with
  | .d (.int i) => .ok (some i) M1
  | _ => .fail
theorem xo_none : PXO X C E none o_none := ⟨_, po_none, fun W σ H ρ M Q ok sl p => post_ok p ok rfl⟩
theorem xo_some {e : Expr} {m : Mx VD} (h : PX X C E e m) : PXO X C E (some e) (o_some m) := by
  obtain ⟨ta, pa, sa⟩ := h
  refine ⟨_, po_some pa, fun W σ H ρ M Q ok sl p => ?_⟩
  refine sa W σ H ρ M _ ok sl (post_bind p fun a M1 W1 H1 x l1 ok1 ra p1 => ?_)
  split at p1
  · cases inv_int ra
    exact ⟨_, rfl, post_ok p1 ok1 rfl⟩
  · exact p1.elim
def cut {α : Type} (xs : List α) (lo hi : Option Int) : List α := (xs.drop (HT.sIx xs.length 0 lo)).take (HT.sIx xs.length xs.length hi - HT.sIx xs.length 0 lo)
def f_sl (a : VD) (lo hi : Option Int) (M : Mem) : Res VD := match a with
  | .d (.str s) => if s.length ≤ lim then .ok (.d (.str (cut s lo hi))) M else .fail
  | .d (.tup ds) => .ok (.d (.tup (cut ds lo hi))) M
  | a => match lsqOf M a with
    | some ds => .ok (.d (.lst (cut ds lo hi))) M
    | none => .fail
def e_sl (a : Mx VD) (lo hi : Mx (Option Int)) : Mx VD := fun ρ M => (a ρ M).bind fun x M1 => (lo ρ M1).bind fun l M2 => (hi ρ M2).bind fun h M3 => f_sl x l h M3
theorem x_sl {e : Expr} {lo hi : Option Expr} {m : Mx VD} {ml mh : Mx (Option Int)} {p2 pos : Pos} (hK : C.K = X.K) (ha : PX X C E e m) (hl : PXO X C E lo ml) (hh : PXO X C E hi mh) : PX X C E (.Subscript e (.Slice lo hi none p2) pos) (e_sl m ml mh) := by
  obtain ⟨ta, pa, sa⟩ := ha
  obtain ⟨tl, pl, sl'⟩ := hl
  obtain ⟨th, ph, sh⟩ := hh
  refine ⟨_, pe_slice (SlR.or sl_list (SlR.or sl_str sl_tupA)) pa pl ph, fun W σ H ρ M Q ok sl p => ?_⟩
  refine sa W σ H ρ M _ ok sl (post_bind p fun a M1 W1 H1 x l1 ok1 ra p1 => ?_)
  refine sl' W1 σ H1 ρ M1 _ ok1 (sl.mono l1.le) (post_bind p1 fun l M2 W2 H2 y l2 ok2 rl p2 => ?_)
  cases rl
  refine sh W2 σ H2 ρ M2 _ ok2 ((sl.mono l1.le).mono l2.le) (post_bind p2 fun h M3 W3 H3 z l3 ok3 rh p3 => ?_)
  cases rh
  have ra := (ra.mono l2.le).mono l3.le
  unfold f_sl at p3
  split at p3
  · rename_i s _
    split at p3
    · rename_i hl
      cases inv_str ra
      refine .inr (.inl ⟨enc s, rfl, by rw [enc_len]; exact lim_le hl, ?_⟩)
      have e1 : cutS (enc s) l h = enc (cut s l h) := by
        unfold cutS cut enc
        simp [Str.length]
      rw [e1]
      exact post_ok p3 ok3 (Rep.str _)
    · exact p3.elim
  · rename_i ds _
    cases (show Rep C W3.B x (.tup ds) from ra) with
    | tup h1 h2 =>
      refine .inr (.inr ⟨_, _, rfl, by rw [← hK]; exact sqT_sub ok3.sub h1, fun e => ?_, fun _ => ?_⟩)
      · rw [h2.length] at e
        have e2 : cut ds l h = ds := by
          unfold cut
          rw [e.1, e.2]
          simp
        rw [e2] at p3
        exact post_ok p3 ok3 (Rep.tup h1 h2)
      · unfold cutV
        rw [h2.length]
        exact post_tup p3 ok3 ((h2.drop _).take _)
  · split at p3
    · rename_i ds e
      obtain ⟨q, vs, rfl, hs, hr⟩ := lsq_read ok3 ra e
      refine .inl ⟨_, _, rfl, by rw [← hK]; exact hs, ?_⟩
      unfold cutV
      rw [hr.length]
      exact post_lst p3 ok3 ((hr.drop _).take _)
    · exact p3.elim
end
end G

namespace G
open PySem PySem.Spec PyProof.Rows L2
section
variable {X : Cx} {C : Cf} {E : XK} {CX : CXT} {k : Nat}
/-! calls -/
/-- a def's promise -/
def spD (C : Cf) (n : Nat) (m : List VD → Mem → Res VD) : Sp := fun vs H Q E => ∃ W M ds, Ok C W H M ∧ RepVA C W vs ds ∧ ds.length = n ∧ post C (relV C) E Q W H (m ds M)
theorem spD_len {n : Nat} {m} : ∀ vs H Q E, spD C n m vs H Q E → vs.length = n := fun vs H Q E h => by
  obtain ⟨W, M, ds, _, r, l, _⟩ := h
  rw [r.length, l]
structure Callee (P : Program) (w : World) (K : PySem.W.Frag) (mg : Str → Option Value) (base : Heap) (CX : CXT) (C : Cf) (x : Str) (j n : Nat) (m : List VD → Mem → Res VD) : Prop where
  ex : ∃ f fd ps, FnOk P w K mg base CX j f fd ps (spD C n m) ∧ mg x = some (.ref f) ∧ PySem.W.keepIn K (.ref f) = true ∧ Binds K fd ps []
def e_call (n : Nat) (m : List VD → Mem → Res VD) (ms : Mx (List VD)) : Mx VD := fun ρ M => (ms ρ M).bind fun vs M1 => if vs.length = n then m vs M1 else .fail
theorem sem_call {n : Nat} {m} {ta : TA} {ms : Mx (List VD)} (ha : SemA C E ta ms) : Sem C E (tCall (spD C n m) [] E ta) (e_call n m ms) := fun W σ H ρ M Q ok sl p => by
  refine ha W σ H ρ M _ ok sl (post_bind p fun vs M1 W1 H1 x l1 ok1 ra p1 => ?_)
  split at p1
  · rename_i hl
    rw [List.append_nil]
    exact ⟨W1, M1, vs, ok1, ra, hl, p1⟩
  · exact p1.elim
theorem x_call {j n : Nat} {m} {x : Str} {e : Expr} {es : List Expr} {ms : Mx (List VD)} {p pos : Pos} (c : Cxx X C E CX k) (F : Callee X.prog X.w X.K X.mg X.base CX C x j n m) (ha : PXA X C E (e :: es) ms) (hj : j ≤ k := by decide) (hg : Gl X x := by rfl)
    (hdb : (x == ("__debug__" : Str)) = false := by decide) (he : starEach (e :: es) X.env = (false, eval e X.env) :: starEach es X.env := by rfl) (hpl : (backTo pos (starEach es X.env)).any (·.1) = false := by rfl) :
    PX X C E (.Call (.Name x p) (e :: es) [] pos) (e_call n m ms) := by
  obtain ⟨f, fd, ps, F, hm, hk, hb⟩ := F.ex
  obtain ⟨ta, pa, sa⟩ := ha
  exact ⟨_, pe_call F (c.hr.mono hj) hg hm hk hb .nil c.pas pa hdb he hpl, sem_call sa⟩
theorem x_call0 {j : Nat} {m} {x : Str} {p pos : Pos} (c : Cxx X C E CX k) (F : Callee X.prog X.w X.K X.mg X.base CX C x j 0 m) (hj : j ≤ k := by decide) (hg : Gl X x := by rfl) (hdb : (x == ("__debug__" : Str)) = false := by decide) :
    PX X C E (.Call (.Name x p) [] [] pos) (e_call 0 m a_nil) := by
  obtain ⟨f, fd, ps, F, hm, hk, hb⟩ := F.ex
  refine ⟨_, pe_call0 F (c.hr.mono hj) hg hm hk hb .nil c.pas hdb, sem_call (ta := tNil) (ms := a_nil) fun W σ H ρ M Q ok sl p => post_ok p ok .nil⟩
/-! built-in functions -/
def e_bi (f : List VD → Mem → Res VD) (ms : Mx (List VD)) : Mx VD := fun ρ M => (ms ρ M).bind f
theorem sem_bi {r : List V → Hp → VK → Prop} {f} {ta : TA} {ms : Mx (List VD)} (hf : CallS C E r f) (ha : SemA C E ta ms) : Sem C E (tCB r ta) (e_bi f ms) := fun W σ H ρ M Q ok sl p => by
  refine ha W σ H ρ M _ ok sl (post_bind p fun vs M1 W1 H1 x l1 ok1 ra p1 => ?_)
  exact hf W1 H1 M1 x vs Q ok1 ra p1
theorem x_bi {id : String} {r : List V → Hp → VK → Prop} {f} {x : Str} {e : Expr} {es : List Expr} {ms : Mx (List VD)} {p pos : Pos} (hc : CallR X (.builtin id) r) (hf : CallS C E r f) (hm : X.mg x = none) (hv : bootBuiltins x = some (.builtin id)) (ha : PXA X C E (e :: es) ms) (hg : Gl X x := by rfl)
    (hn : x ≠ "__name__" := by decide) (hdb : (x == ("__debug__" : Str)) = false := by decide) (he : starEach (e :: es) X.env = (false, eval e X.env) :: starEach es X.env := by rfl) (hpl : (backTo pos (starEach es X.env)).any (·.1) = false := by rfl) :
    PX X C E (.Call (.Name x p) (e :: es) [] pos) (e_bi f ms) := by
  obtain ⟨ta, pa, sa⟩ := ha
  exact ⟨_, pe_callB hc hg hm hv pa hn hdb he hpl, sem_bi hf sa⟩
theorem x_ty {id : String} {r : List V → Hp → VK → Prop} {f} {x : Str} {e : Expr} {es : List Expr} {ms : Mx (List VD)} {p pos : Pos} (hc : CallR X (.type id) r) (hf : CallS C E r f) (hm : X.mg x = none) (hv : bootBuiltins x = some (.type id)) (ha : PXA X C E (e :: es) ms) (hg : Gl X x := by rfl)
    (hn : x ≠ "__name__" := by decide) (hdb : (x == ("__debug__" : Str)) = false := by decide) (he : starEach (e :: es) X.env = (false, eval e X.env) :: starEach es X.env := by rfl) (hpl : (backTo pos (starEach es X.env)).any (·.1) = false := by rfl) :
    PX X C E (.Call (.Name x p) (e :: es) [] pos) (e_bi f ms) := by
  obtain ⟨ta, pa, sa⟩ := ha
  exact ⟨_, pe_callTy hc hg hm hv pa hn hdb he hpl, sem_bi hf sa⟩
theorem RepVA.one {W : Wd} {xs : List V} {a : VD} (h : RepVA C W xs [a]) : ∃ x, xs = [x] ∧ RepV C W x a := by
  cases h with
  | cons h r =>
    cases r
    exact ⟨_, rfl, h⟩
theorem RepVA.two {W : Wd} {xs : List V} {a b : VD} (h : RepVA C W xs [a, b]) : ∃ x y, xs = [x, y] ∧ RepV C W x a ∧ RepV C W y b := by
  cases h with
  | cons h r =>
    obtain ⟨y, rfl, h2⟩ := r.one
    exact ⟨_, _, rfl, h, h2⟩
def lenOf (M : Mem) : VD → Option Nat
  | .d (.str s) => if s.length ≤ lim then some s.length else none
  | a => (seqOf M a).map List.length
def f_len : List VD → Mem → Res VD
  | [a], M => match lenOf M a with
    | some n => .ok (.d (.int n)) M
    | none => .fail
  | _, _ => .fail
theorem p_len : CallS C E (fun xs H Q => ∃ x n, xs = [x] ∧ LenV C.K x H n ∧ Q (.int n) H) f_len := fun W H M xs as Q ok ra p => by
  unfold f_len at p
  split at p
  · rename_i a
    obtain ⟨x, rfl, r⟩ := ra.one
    split at p
    · rename_i n e
      refine ⟨x, n, rfl, ?_, post_ok p ok (.int _)⟩
      unfold lenOf at e
      split at e
      · split at e
        · rename_i hl
          cases inv_str r
          exact ⟨by rw [enc_len]; exact lim_le hl, by rw [enc_len]; exact (Option.some.inj e).symm⟩
        · cases e
      · cases q : seqOf M a with
        | none =>
          rw [q] at e
          cases e
        | some ds =>
          rw [q] at e
          have e : ds.length = n := Option.some.inj e
          obtain ⟨q, vs, rfl, hs, hr⟩ := seq_read ok r q
          rcases hs with hs | hs
          · exact .inl ⟨vs, hs, by rw [hr.length, e]⟩
          · exact .inr ⟨vs, hs, by rw [hr.length, e]⟩
    · exact p.elim
  · exact p.elim
def blL : List D → Option (List Bool)
  | [] => some []
  | .bl b :: r => (blL r).map (b :: ·)
  | _ => none
theorem RepA.blL {B : Hp} : ∀ {vs : List V} {ds : List D} {bs : List Bool}, RepA C B vs ds → blL ds = some bs → vs = bs.map V.bl
  | _, _, _, .nil, e => by cases e; rfl
  | _, _, _, .cons (d := .bl b) (ds := ds) h r, e => by
    cases q : G.blL ds with
    | none =>
      rw [G.blL, q] at e
      cases e
    | some ys =>
      rw [G.blL, q] at e
      cases e
      cases h
      rw [RepA.blL r q]
      rfl
  | _, _, _, .cons (d := .non) h r, e => by cases e
  | _, _, _, .cons (d := .int _) h r, e => by cases e
  | _, _, _, .cons (d := .str _) h r, e => by cases e
  | _, _, _, .cons (d := .lst _) h r, e => by cases e
  | _, _, _, .cons (d := .tup _) h r, e => by cases e
  | _, _, _, .cons (d := .obj _ _) h r, e => by cases e
  | _, _, _, .cons (d := .scr _) h r, e => by cases e
  | _, _, _, .cons (d := .clo _) h r, e => by cases e
  | _, _, _, .cons (d := .exn _ _) h r, e => by cases e
  | _, _, _, .cons (d := .pv _) h r, e => by cases e
def inL : List D → Option (List Int)
  | [] => some []
  | .int b :: r => (inL r).map (b :: ·)
  | _ => none
theorem RepA.inL {B : Hp} : ∀ {vs : List V} {ds : List D} {bs : List Int}, RepA C B vs ds → inL ds = some bs → vs = bs.map V.int
  | _, _, _, .nil, e => by cases e; rfl
  | _, _, _, .cons (d := .int b) (ds := ds) h r, e => by
    cases q : G.inL ds with
    | none =>
      rw [G.inL, q] at e
      cases e
    | some ys =>
      rw [G.inL, q] at e
      cases e
      cases h
      rw [RepA.inL r q]
      rfl
  | _, _, _, .cons (d := .non) h r, e => by cases e
  | _, _, _, .cons (d := .bl _) h r, e => by cases e
  | _, _, _, .cons (d := .str _) h r, e => by cases e
  | _, _, _, .cons (d := .lst _) h r, e => by cases e
  | _, _, _, .cons (d := .tup _) h r, e => by cases e
  | _, _, _, .cons (d := .obj _ _) h r, e => by cases e
  | _, _, _, .cons (d := .scr _) h r, e => by cases e
  | _, _, _, .cons (d := .clo _) h r, e => by cases e
  | _, _, _, .cons (d := .exn _ _) h r, e => by cases e
  | _, _, _, .cons (d := .pv _) h r, e => by cases e
def stL : List D → Option (List (List Nat))
  | [] => some []
  | .str b :: r => (stL r).map (b :: ·)
  | _ => none
theorem RepA.stL {B : Hp} : ∀ {vs : List V} {ds : List D} {bs : List (List Nat)}, RepA C B vs ds → stL ds = some bs → vs = (bs.map enc).map V.str
  | _, _, _, .nil, e => by cases e; rfl
  | _, _, _, .cons (d := .str b) (ds := ds) h r, e => by
    cases q : G.stL ds with
    | none =>
      rw [G.stL, q] at e
      cases e
    | some ys =>
      rw [G.stL, q] at e
      cases e
      cases h
      rw [RepA.stL r q]
      rfl
  | _, _, _, .cons (d := .non) h r, e => by cases e
  | _, _, _, .cons (d := .bl _) h r, e => by cases e
  | _, _, _, .cons (d := .int _) h r, e => by cases e
  | _, _, _, .cons (d := .lst _) h r, e => by cases e
  | _, _, _, .cons (d := .tup _) h r, e => by cases e
  | _, _, _, .cons (d := .obj _ _) h r, e => by cases e
  | _, _, _, .cons (d := .scr _) h r, e => by cases e
  | _, _, _, .cons (d := .clo _) h r, e => by cases e
  | _, _, _, .cons (d := .exn _ _) h r, e => by cases e
  | _, _, _, .cons (d := .pv _) h r, e => by cases e
/-- a list of truth values -/
def f_bls (g : List Bool → Bool) : List VD → Mem → Res VD
  | [a], M => match (lstOf M a).bind blL with
    | some bs => .ok (.d (.bl (g bs))) M
    | none => .fail
  | _, _ => .fail
theorem bls_read {W : Wd} {H : Hp} {M : Mem} {x : V} {a : VD} {bs : List Bool} (ok : Ok C W H M) (r : RepV C W x a) (h : (lstOf M a).bind blL = some bs) : ∃ p, x = .ref p ∧ SqL C.K H p (bs.map V.bl) := by
  cases q : lstOf M a with
  | none =>
    rw [q] at h
    cases h
  | some ds =>
    rw [q] at h
    obtain ⟨p, vs, rfl, hs, hr⟩ := lst_read ok r q
    rw [hr.blL h] at hs
    exact ⟨p, rfl, SqL.of hs⟩
theorem ints_read {W : Wd} {H : Hp} {M : Mem} {x : V} {a : VD} {bs : List Int} (ok : Ok C W H M) (r : RepV C W x a) (h : (lstOf M a).bind inL = some bs) : ∃ p, x = .ref p ∧ SqL C.K H p (bs.map V.int) := by
  cases q : lstOf M a with
  | none =>
    rw [q] at h
    cases h
  | some ds =>
    rw [q] at h
    obtain ⟨p, vs, rfl, hs, hr⟩ := lst_read ok r q
    rw [hr.inL h] at hs
    exact ⟨p, rfl, SqL.of hs⟩
theorem p_all : CallS C E (rAll C.K) (f_bls fun bs => bs.all id) := fun W H M xs as Q ok ra p => by
  unfold f_bls at p
  split at p
  · obtain ⟨x, rfl, r⟩ := ra.one
    split at p
    · rename_i e
      obtain ⟨q, rfl, hs⟩ := bls_read ok r e
      exact ⟨q, _, rfl, hs, post_ok p ok (.bl _)⟩
    · exact p.elim
  · exact p.elim
theorem p_any : CallS C E (rAny C.K) (f_bls fun bs => bs.any id) := fun W H M xs as Q ok ra p => by
  unfold f_bls at p
  split at p
  · obtain ⟨x, rfl, r⟩ := ra.one
    split at p
    · rename_i e
      obtain ⟨q, rfl, hs⟩ := bls_read ok r e
      exact ⟨q, _, rfl, hs, post_ok p ok (.bl _)⟩
    · exact p.elim
  · exact p.elim
def f_sum : List VD → Mem → Res VD
  | [a], M => match (lstOf M a).bind inL with
    | some bs => .ok (.d (.int bs.sum)) M
    | none => .fail
  | _, _ => .fail
theorem p_sum : CallS C E (rSum C.K) f_sum := fun W H M xs as Q ok ra p => by
  unfold f_sum at p
  split at p
  · obtain ⟨x, rfl, r⟩ := ra.one
    split at p
    · rename_i e
      obtain ⟨q, rfl, hs⟩ := ints_read ok r e
      exact ⟨q, _, rfl, hs, post_ok p ok (.int _)⟩
    · exact p.elim
  · exact p.elim
def f_int : List VD → Mem → Res VD
  | [.d (.int i)], M => .ok (.d (.int i)) M
  | [.d (.bl b)], M => .ok (.d (.int (if b then 1 else 0))) M
  | _, _ => .fail
theorem p_int : CallS C E (fun xs H Q => (∃ i, xs = [.int i] ∧ Q (.int i) H) ∨ ∃ k, xs = [.bl k] ∧ Q (.int (if k then 1 else 0)) H) f_int := fun W H M xs as Q ok ra p => by
  unfold f_int at p
  split at p
  · obtain ⟨x, rfl, r⟩ := ra.one
    cases inv_int r
    exact .inl ⟨_, rfl, post_ok p ok (.int _)⟩
  · obtain ⟨x, rfl, r⟩ := ra.one
    cases inv_bl r
    exact .inr ⟨_, rfl, post_ok p ok (.int _)⟩
  · exact p.elim
def f_list : List VD → Mem → Res VD
  | [.d (.str s)], M => if s.length ≤ lim then .ok (.d (.lst (s.map fun c => .str [c]))) M else .fail
  | [a], M => match seqOf M a with
    | some ds => .ok (.d (.lst ds)) M
    | none => .fail
  | _, _ => .fail
def rLs (K : PySem.W.Frag) : List V → Hp → VK → Prop := fun xs H Q => (∃ p ys, xs = [.ref p] ∧ (SqL K H p ys ∨ SqT K H p ys) ∧ ∀ l, H l = none → Q (.ref l) (upd H l (.lst ys))) ∨ (∃ s : List Nat, xs = [.str (enc s)] ∧ s.length ≤ sizeLine ∧ ∀ l, H l = none → Q (.ref l) (upd H l (.lst (s.map fun c => V.str ⟨#[c]⟩))))
theorem repA_chars {B : Hp} : ∀ s : List Nat, RepA C B (s.map fun c => V.str ⟨#[c]⟩) (s.map fun c => D.str [c])
  | [] => .nil
  | c :: s => .cons (Rep.str [c]) (repA_chars s)
theorem p_list : CallS C E (rLs C.K) f_list := fun W H M xs as Q ok ra p => by
  unfold f_list at p
  split at p
  · obtain ⟨x, rfl, r⟩ := ra.one
    cases inv_str r
    split at p
    · rename_i h
      exact .inr ⟨_, rfl, lim_le h, post_lst p ok (repA_chars _)⟩
    · exact p.elim
  · obtain ⟨x, rfl, r⟩ := ra.one
    split at p
    · rename_i ds e
      obtain ⟨q, vs, rfl, hs, hr⟩ := seq_read ok r e
      exact .inl ⟨q, vs, rfl, hs, post_lst p ok hr⟩
    · exact p.elim
  · exact p.elim
theorem vals_ix : ∀ (xs : List V) (us : List Value), us.length = xs.length → (∀ (j : Nat) (u : Value), us[j]? = some u → ∃ x, xs[j]? = some x ∧ RelV x u) → Vals xs us
  | [], [], _, _ => .nil
  | [], _ :: _, h, _ => by simp at h
  | _ :: _, [], h, _ => by simp at h
  | x :: xs, u :: us, h, k => by
    obtain ⟨y, e, r⟩ := k 0 u rfl
    obtain rfl : x = y := by simpa using e
    exact .cons r (vals_ix xs us (by simpa using h) fun j v hv => by simpa using k (j + 1) v (by simpa using hv))
theorem call_list_s {X : Cx} (hc : X.calm = true) : CallR X (.type "list") (fun xs H Q => ∃ s : List Nat, xs = [.str (enc s)] ∧ s.length ≤ sizeLine ∧ ∀ l, H l = none → Q (.ref l) (upd H l (.lst (s.map fun c => V.str ⟨#[c]⟩)))) := by
  intro pins s σ H xs us Q I r h
  obtain ⟨z, rfl, hz, q⟩ := h
  obtain ⟨u, rfl, t, rfl⟩ := vals1 r
  have he : (enc z).cps.size = z.length := by simp [enc]
  refine call_list_str (I.ok.hd hc) (enc z) t (fun h' tk acc c' hk e hi => ?_) (by rw [he]; exact hz)
  rw [he] at hi
  refine ⟨.ref s.heap.objs.size, upd H s.heap.objs.size (.lst (z.map fun c => V.str ⟨#[c]⟩)), I.laid hk (Nat.le_refl _) ⟨by rw [List.length_map]; exact hz, acc.toList, c', ?_, by rw [Array.toArray_toList]; exact e⟩, rfl, q _ (I.hok.fresh (Nat.le_refl _))⟩
  refine vals_ix _ _ (by rw [List.length_map]; simpa using hi.1) fun j u hj => ?_
  obtain ⟨c, t', hc, rfl⟩ := hi.2 j u (by rw [← Array.getElem?_toList]; exact hj)
  exact ⟨.str ⟨#[c]⟩, by rw [List.getElem?_map]; simp [enc] at hc; simp [hc], ⟨_, rfl⟩⟩
theorem call_list_all {X : Cx} (hc : X.calm = true) : CallR X (.type "list") (rLs X.K) := CallR.or call_list_of (call_list_s hc)
/-! isinstance -/
inductive BT where
  | int | bool | str | list | tuple
  deriving DecidableEq
def BT.nm : BT → String
  | .int => "int" | .bool => "bool" | .str => "str" | .list => "list" | .tuple => "tuple"
/-- a value's own kind -/
inductive VT where
  | none | bool | int | str | list | tuple
def VT.nm : VT → String
  | .none => "NoneType" | .bool => "bool" | .int => "int" | .str => "str" | .list => "list" | .tuple => "tuple"
def VT.isA : VT → BT → Bool
  | .bool, .bool => true | .bool, .int => true | .int, .int => true | .str, .str => true | .list, .list => true | .tuple, .tuple => true
  | _, _ => false
theorem vt_kit (v : VT) (b : BT) : kitB v.nm b.nm = some (v.isA b) := by
  cases v <;> cases b <;> decide +kernel
def vtOf (M : Mem) : VD → Option VT
  | .d .non => some .none
  | .d (.bl _) => some .bool
  | .d (.int _) => some .int
  | .d (.str _) => some .str
  | .d (.lst _) => some .list
  | .d (.tup _) => some .tuple
  | .d (.obj _ _) => Option.none
  | .d (.scr _) => Option.none
  | .d (.clo _) => Option.none
  | .d (.exn _ _) => Option.none
  | .d (.pv _) => Option.none
  | .adr i => match M[i]? with
    | some (.lst _) => some .list
    | _ => Option.none
theorem vt_ty {W : Wd} {H : Hp} {M : Mem} {x : V} {a : VD} {t : VT} (ok : Ok C W H M) (r : RepV C W x a) (h : vtOf M a = some t) : TyX C.K H x (.type t.nm) := by
  unfold vtOf at h
  split at h
  · cases h; cases inv_non r; exact .base .non
  · cases h; cases inv_bl r; exact .base (.bl _)
  · cases h; cases inv_int r; exact .base (.int _)
  · cases h; cases inv_str r; exact .base (.str _)
  · rename_i ds
    cases h
    cases (show Rep C W.B x (.lst ds) from r) with
    | lst h1 h2 => exact .base (.lst (ok.sub _ _ h1))
  · rename_i ds
    cases h
    cases (show Rep C W.B x (.tup ds) from r) with
    | tup h1 h2 =>
      rcases sqT_sub ok.sub h1 with (h | ⟨o, h⟩) | ⟨o, its, n, h, hc, _⟩
      · exact .base (.tup h)
      · exact .fTuple h
      · exact .kTuple h hc
  · cases h
  · cases h
  · cases h
  · cases h
  · cases h
  · obtain ⟨q, rfl, hq⟩ := r
    split at h
    · rename_i e
      cases h
      obtain ⟨_, vs, h1, h2⟩ := ok.mo _ q _ hq e
      exact .base (.lst h1)
    · cases h
def e_isi (b : BT) (m : Mx VD) : Mx VD := fun ρ M => (m ρ M).bind fun v M1 => match vtOf M1 v with
  | some t => .ok (.d (.bl (t.isA b))) M1
  | none => .fail
theorem x_isi {b : BT} {e : Expr} {t : Str} {m : Mx VD} {p p2 pos : Pos} (hK : C.K = X.K) (ha : PX X C E e m) (hmi : X.mg "isinstance" = none) (hmt : X.mg t = none) (hv : bootBuiltins t = some (.type b.nm)) (hg : Gl X "isinstance" := by rfl) (hgt : Gl X t := by rfl)
    (hn : t ≠ "__name__" := by decide) (hd : (t == ("__debug__" : Str)) = false := by decide) (he : starEach [e, .Name t p2] X.env = (false, eval e X.env) :: starEach [.Name t p2] X.env := by rfl) (he2 : starEach [.Name t p2] X.env = (false, eval (.Name t p2) X.env) :: starEach [] X.env := by rfl) (hpl : (backTo pos (starEach [.Name t p2] X.env)).any (·.1) = false := by rfl) :
    PX X C E (.Call (.Name "isinstance" p) [e, .Name t p2] [] pos) (e_isi b m) := by
  obtain ⟨ta, pa, sa⟩ := ha
  refine ⟨_, pe_callB call_isi hg hmi (by decide +kernel) (pa_cons pa (pa_cons (pe_bltn (v := .ty b.nm) hgt hmt hv rfl (hn := hn) (hd := hd)) pa_nil he2) he) (by decide) (by decide) he hpl, fun W σ H ρ M Q ok sl p => ?_⟩
  refine sa W σ H ρ M _ ok sl (post_bind p fun a M1 W1 H1 x l1 ok1 ra p1 => ?_)
  split at p1
  · rename_i t e
    refine ⟨x, .ty b.nm, .type t.nm, _, _, rfl, .ty _, ?_, kit_ty (vt_kit t b), post_ok p1 ok1 (.bl _)⟩
    rw [← hK]
    exact vt_ty ok1 ra e
  · exact p1.elim
/-- isinstance(x, (T1, T2)) -/
def e_isi2 (b b2 : BT) (m : Mx VD) : Mx VD := fun ρ M => (m ρ M).bind fun v M1 => match vtOf M1 v with
  | some t => .ok (.d (.bl (t.isA b || t.isA b2))) M1
  | none => .fail
theorem x_isi2 {b b2 : BT} {e : Expr} {t t2 : Str} {m : Mx VD} {kt} {p p2 p3 pt pos : Pos} (hK : C.K = X.K) (ha : PX X C E e m) (hmi : X.mg "isinstance" = none) (hmt : X.mg t = none) (hmt2 : X.mg t2 = none) (hv : bootBuiltins t = some (.type b.nm)) (hv2 : bootBuiltins t2 = some (.type b2.nm)) (hg : Gl X "isinstance" := by rfl) (hgt : Gl X t := by rfl) (hgt2 : Gl X t2 := by rfl)
    (hn : t ≠ "__name__" := by decide) (hd : (t == ("__debug__" : Str)) = false := by decide) (hn2 : t2 ≠ "__name__" := by decide) (hd2 : (t2 == ("__debug__" : Str)) = false := by decide)
    (he : starEach [e, .Tuple [.Name t p2, .Name t2 p3] kt pt] X.env = (false, eval e X.env) :: starEach [.Tuple [.Name t p2, .Name t2 p3] kt pt] X.env := by rfl)
    (he2 : starEach [.Tuple [.Name t p2, .Name t2 p3] kt pt] X.env = (false, eval (.Tuple [.Name t p2, .Name t2 p3] kt pt) X.env) :: starEach [] X.env := by rfl)
    (he3 : starEach [.Name t p2, .Name t2 p3] X.env = (false, eval (.Name t p2) X.env) :: starEach [.Name t2 p3] X.env := by rfl) (he4 : starEach [.Name t2 p3] X.env = (false, eval (.Name t2 p3) X.env) :: starEach [] X.env := by rfl)
    (hpl : (backTo pos (starEach [.Tuple [.Name t p2, .Name t2 p3] kt pt] X.env)).any (·.1) = false := by rfl) :
    PX X C E (.Call (.Name "isinstance" p) [e, .Tuple [.Name t p2, .Name t2 p3] kt pt] [] pos) (e_isi2 b b2 m) := by
  obtain ⟨ta, pa, sa⟩ := ha
  refine ⟨_, pe_callB call_isiT hg hmi (by decide +kernel) (pa_cons pa (pa_cons (pe_tup (pa_cons (pe_bltn (v := .ty b.nm) hgt hmt hv rfl (hn := hn) (hd := hd)) (pa_cons (pe_bltn (v := .ty b2.nm) hgt2 hmt2 hv2 rfl (hn := hn2) (hd := hd2)) pa_nil he4) he3)) pa_nil he2) he) (by decide) (by decide) he hpl, fun W σ H ρ M Q ok sl p => ?_⟩
  refine sa W σ H ρ M _ ok sl (post_bind p fun a M1 W1 H1 x l1 ok1 ra p1 => ?_)
  split at p1
  · rename_i t e
    refine ⟨by show 2 ≤ sizeLine; decide, fun q hq => ?_⟩
    have st : Step W1 H1 W1 (upd H1 q (.tup [V.ty b.nm, V.ty b2.nm])) := Step.grow hq
    have ok2 := ok1.grow (same_upd hq (o := .tup [V.ty b.nm, V.ty b2.nm]))
    refine ⟨x, q, [.ty b.nm, .ty b2.nm], .type t.nm, [.type b.nm, .type b2.nm], t.isA b || t.isA b2, rfl, upd_same, .cons (.ty _) (.cons (.ty _) .nil), ?_, ?_, p1 _ _ _ st ok2 (.bl _)⟩
    · rw [← hK]
      exact vt_ty ok2 ra e
    · exact kitAny_cons (kit_ty (vt_kit t b)) (fun e1 => by
        rw [e1, Bool.false_or]
        exact kitAny_cons (kit_ty (vt_kit t b2)) (fun e2 => by rw [e2]; exact kitAny_nil) (fun e2 => e2)) (fun e1 => by rw [e1, Bool.true_or])
  · exact p1.elim
end
end G

namespace G
open PySem PySem.Spec PyProof.Rows L2
/-! what is walked -/
structure Walks (C : Cf) (J : It) (items : List D) (W0 : Wd) : Prop where
  go : ∀ (i : Nat) (W : Wd) (H : Hp) (M : Mem), Le W0 W → Ok C W H M → i < items.length → J.go i H
  yld : ∀ (i : Nat) (W : Wd) (H : Hp) (M : Mem) (x : V) (H' : Hp), Le W0 W → Ok C W H M → i < items.length → J.yld i H x H' → ∃ W' d, items[i]? = some d ∧ Step W H W' H' ∧ Ok C W' H' M ∧ Rep C W'.B x d
  stop : ∀ (i : Nat) (W : Wd) (H : Hp) (M : Mem), Le W0 W → Ok C W H M → items.length ≤ i → J.stop i H
theorem Walks.mono {C : Cf} {J : It} {items : List D} {W W' : Wd} (l : Le W W') (h : Walks C J items W) : Walks C J items W' :=
  ⟨fun i W2 H M l2 => h.go i W2 H M (l.trans l2), fun i W2 H M x H' l2 => h.yld i W2 H M x H' (l.trans l2), fun i W2 H M l2 => h.stop i W2 H M (l.trans l2)⟩
abbrev relI (C : Cf) : Wd → It → List D → Prop := fun W J items => Walks C J items W
def SemI (C : Cf) (E : XK) (wi : TI) (mi : Mx (List D)) : Prop := ∀ W σ H ρ M R, Ok C W H M → Slots C W σ ρ → post C (relI C) E R W H (mi ρ M) → wi σ H R
structure PXI (X : Cx) (C : Cf) (E : XK) (tg iter : Expr) (mi : Mx (List D)) : Prop where
  ex : ∃ wi, PI X tg iter wi ∧ SemI C E wi mi
section
variable {X : Cx} {C : Cf} {E : XK} {CX : CXT} {k : Nat}
theorem walks_list {W : Wd} {a : Addr} {vs : List V} {ds : List D} (h : W.B a = some (.lst vs)) (r : RepA C W.B vs ds) : Walks C (Itl C.K a) ds W where
  go := fun i W2 H M l ok hi => by
    obtain ⟨d, hd⟩ : ∃ d, ds[i]? = some d := ⟨ds[i], List.getElem?_eq_getElem hi⟩
    obtain ⟨v, hv, _⟩ := r.get hd
    exact ⟨vs, v, SqL.of (ok.sub _ _ (l.1 _ _ h)), hv⟩
  yld := fun i W2 H M x H' l ok hi y => by
    obtain ⟨d, hd⟩ : ∃ d, ds[i]? = some d := ⟨ds[i], List.getElem?_eq_getElem hi⟩
    obtain ⟨v, hv, rv⟩ := r.get hd
    obtain ⟨e, y⟩ := y
    subst e
    have e2 := y vs (SqL.of (ok.sub _ _ (l.1 _ _ h)))
    rw [hv] at e2
    cases e2
    exact ⟨W2, d, hd, Step.refl _ _, ok, rv.mono l.1⟩
  stop := fun i W2 H M l ok hi => ⟨vs, SqL.of (ok.sub _ _ (l.1 _ _ h)), by rw [r.length]; exact hi⟩
theorem walks_tup {W : Wd} {a : Addr} {vs : List V} {ds : List D} (h : SqT C.K W.B a vs) (r : RepA C W.B vs ds) : Walks C (Itt C.K a) ds W where
  go := fun i W2 H M l ok hi => by
    obtain ⟨d, hd⟩ : ∃ d, ds[i]? = some d := ⟨ds[i], List.getElem?_eq_getElem hi⟩
    obtain ⟨v, hv, _⟩ := r.get hd
    exact ⟨vs, v, sqT_sub ok.sub (sqT_sub l.1 h), hv⟩
  yld := fun i W2 H M x H' l ok hi y => by
    obtain ⟨d, hd⟩ : ∃ d, ds[i]? = some d := ⟨ds[i], List.getElem?_eq_getElem hi⟩
    obtain ⟨v, hv, rv⟩ := r.get hd
    obtain ⟨e, y⟩ := y
    subst e
    have e2 := y vs (sqT_sub ok.sub (sqT_sub l.1 h))
    rw [hv] at e2
    cases e2
    exact ⟨W2, d, hd, Step.refl _ _, ok, rv.mono l.1⟩
  stop := fun i W2 H M l ok hi => ⟨vs, sqT_sub ok.sub (sqT_sub l.1 h), by rw [r.length]; exact hi⟩
def chars (s : List Nat) : List D := s.map fun c => .str [c]
theorem walks_str {W : Wd} {s : List Nat} : Walks C (Its (enc s)) (chars s) W where
  go := fun i W2 H M l ok hi => by
    show i < (enc s).cps.size
    simpa [enc, chars] using hi
  yld := fun i W2 H M x H' l ok hi y => by
    obtain ⟨e, c, hc, hx⟩ := y
    subst e hx
    have hc : s[i]? = some c := by simpa [enc] using hc
    refine ⟨W2, .str [c], by simp [chars, hc], Step.refl _ _, ok, Rep.str [c]⟩
  stop := fun i W2 H M l ok hi => by
    show (enc s).cps.size ≤ i
    simpa [enc, chars] using hi
def range (lo : Int) (n : Nat) : List D := (List.range n).map fun (i : Nat) => .int (lo + i)
theorem walks_range {W : Wd} {lo : Int} {n : Nat} : Walks C (Itr lo n) (range lo n) W where
  go := fun i W2 H M l ok hi => by
    show i < n
    simpa [range] using hi
  yld := fun i W2 H M x H' l ok hi y => by
    obtain ⟨e, hx⟩ := y
    subst e hx
    have hi : i < n := by simpa [range] using hi
    exact ⟨W2, .int (lo + i), by simp [range, hi], Step.refl _ _, ok, Rep.int _⟩
  stop := fun i W2 H M l ok hi => by
    show n ≤ i
    simpa [range] using hi
def i_lst (a : Mx VD) : Mx (List D) := fun ρ M => (a ρ M).bind fun v M1 => match v with
  | .d (.lst ds) => .ok ds M1
  | _ => .fail
def i_tup (a : Mx VD) : Mx (List D) := fun ρ M => (a ρ M).bind fun v M1 => match v with
  | .d (.tup ds) => .ok ds M1
  | _ => .fail
def i_str (a : Mx VD) : Mx (List D) := fun ρ M => (a ρ M).bind fun v M1 => match v with
  | .d (.str s) => .ok (chars s) M1
  | _ => .fail
theorem xi_lst {tg e : Expr} {m : Mx VD} (hK : C.K = X.K) (h : PX X C E e m) : PXI X C E tg e (i_lst m) := by
  obtain ⟨ta, pa, sa⟩ := h
  refine ⟨_, pi_list pa, fun W σ H ρ M R ok sl p => ?_⟩
  refine sa W σ H ρ M _ ok sl (post_bind p fun a M1 W1 H1 x l1 ok1 ra p1 => ?_)
  split at p1
  · rename_i _ ds
    cases (show Rep C W1.B x (.lst ds) from ra) with
    | lst h1 h2 =>
      refine ⟨_, rfl, ⟨_, SqL.of (ok1.sub _ _ h1)⟩, ?_⟩
      rw [← hK]
      exact post_ok p1 ok1 (walks_list h1 h2)
  · exact p1.elim
theorem xi_tup {tg e : Expr} {m : Mx VD} (hK : C.K = X.K) (h : PX X C E e m) : PXI X C E tg e (i_tup m) := by
  obtain ⟨ta, pa, sa⟩ := h
  refine ⟨_, pi_tup pa, fun W σ H ρ M R ok sl p => ?_⟩
  refine sa W σ H ρ M _ ok sl (post_bind p fun a M1 W1 H1 x l1 ok1 ra p1 => ?_)
  split at p1
  · rename_i _ ds
    cases (show Rep C W1.B x (.tup ds) from ra) with
    | tup h1 h2 =>
      refine ⟨_, rfl, ⟨_, by rw [← hK]; exact sqT_sub ok1.sub h1⟩, ?_⟩
      rw [← hK]
      exact post_ok p1 ok1 (walks_tup h1 h2)
  · exact p1.elim
theorem xi_str {tg e : Expr} {m : Mx VD} (h : PX X C E e m) : PXI X C E tg e (i_str m) := by
  obtain ⟨ta, pa, sa⟩ := h
  refine ⟨_, pi_str pa, fun W σ H ρ M R ok sl p => ?_⟩
  refine sa W σ H ρ M _ ok sl (post_bind p fun a M1 W1 H1 x l1 ok1 ra p1 => ?_)
  split at p1
  · cases inv_str ra
    exact ⟨_, rfl, post_ok p1 ok1 walks_str⟩
  · exact p1.elim
noncomputable def i_rng1 (ms : Mx (List VD)) : Mx (List D) := fun ρ M => (ms ρ M).bind fun vs M1 => match vs with
  | [.d (.int j)] => gi (-(2 ^ 60) < j ∧ j < 2 ^ 60) (.ok (range 0 j.toNat) M1) .fail
  | _ => .fail
noncomputable def i_rng2 (ms : Mx (List VD)) : Mx (List D) := fun ρ M => (ms ρ M).bind fun vs M1 => match vs with
  | [.d (.int i), .d (.int j)] => gi ((-(2 ^ 60) < i ∧ i < 2 ^ 60) ∧ (-(2 ^ 60) < j ∧ j < 2 ^ 60)) (.ok (range i (j - i).toNat) M1) .fail
  | _ => .fail
theorem xi_rng1 {tg a : Expr} {ms : Mx (List VD)} {p pos : Pos} (hm : X.mg "range" = none) (h : PXA X C E [a] ms) (hg : Gl X "range" := by rfl) (hs : starEach [a] X.env = [(false, eval a X.env)] := by rfl) : PXI X C E tg (.Call (.Name "range" p) [a] [] pos) (i_rng1 ms) := by
  obtain ⟨ta, pa, sa⟩ := h
  refine ⟨_, pi_range1 hg hm pa hs, fun W σ H ρ M R ok sl p => ?_⟩
  refine sa W σ H ρ M _ ok sl (post_bind p fun a M1 W1 H1 x l1 ok1 ra p1 => ?_)
  split at p1
  · unfold gi at p1
    split at p1
    · rename_i j hj
      obtain ⟨y, rfl, r⟩ := ra.one
      cases inv_int r
      exact ⟨_, rfl, by omega, by omega, post_ok p1 ok1 walks_range⟩
    · exact p1.elim
  · exact p1.elim
theorem xi_rng2 {tg a b : Expr} {ms : Mx (List VD)} {p pos : Pos} (hm : X.mg "range" = none) (h : PXA X C E [a, b] ms) (hg : Gl X "range" := by rfl) (hs : starEach [a, b] X.env = [(false, eval a X.env), (false, eval b X.env)] := by rfl) (hs2 : starEach [b] X.env = [(false, eval b X.env)] := by rfl) : PXI X C E tg (.Call (.Name "range" p) [a, b] [] pos) (i_rng2 ms) := by
  obtain ⟨ta, pa, sa⟩ := h
  refine ⟨_, pi_range2 hg hm pa hs hs2, fun W σ H ρ M R ok sl p => ?_⟩
  refine sa W σ H ρ M _ ok sl (post_bind p fun a M1 W1 H1 x l1 ok1 ra p1 => ?_)
  split at p1
  · unfold gi at p1
    split at p1
    · rename_i j hj
      obtain ⟨y, z, rfl, r1, r2⟩ := ra.two
      cases inv_int r1
      cases inv_int r2
      obtain ⟨⟨h1, h2⟩, h3, h4⟩ := hj
      exact ⟨_, _, rfl, ⟨by omega, by omega, by omega, by omega⟩, post_ok p1 ok1 walks_range⟩
    · exact p1.elim
  · exact p1.elim
/-! enumerate, zip of lists -/
def enumL (ds : List D) : Nat → List D := fun i => match ds with
  | [] => []
  | d :: r => .tup [.int i, d] :: enumL r (i + 1)
theorem enumL_get : ∀ (ds : List D) (j i : Nat), (enumL ds j)[i]? = (ds[i]?).map fun d => D.tup [.int ((j + i : Nat) : Int), d]
  | [], _, _ => by simp [enumL]
  | d :: r, j, 0 => by simp [enumL]
  | d :: r, j, i + 1 => by
    simp only [enumL, List.getElem?_cons_succ, enumL_get r (j + 1) i]
    rw [show j + 1 + i = j + (i + 1) by omega]
theorem enumL_len : ∀ (ds : List D) (j : Nat), (enumL ds j).length = ds.length
  | [], _ => rfl
  | d :: r, j => by simp [enumL, enumL_len r (j + 1)]
theorem rep_tup2 {B : Hp} {T : Addr} {x y : V} {a b : D} (h : B T = some (.tup [x, y])) (r1 : Rep C B x a) (r2 : Rep C B y b) : Rep C B (.ref T) (.tup [a, b]) := Rep.tup (.inl (.inl h)) (.cons r1 (.cons r2 .nil))
theorem walks_enum {W : Wd} {a : Addr} {vs : List V} {ds : List D} (h : W.B a = some (.lst vs)) (r : RepA C W.B vs ds) : Walks C (Ite C.K a) (enumL ds 0) W where
  go := fun i W2 H M l ok hi => by
    rw [enumL_len] at hi
    obtain ⟨d, hd⟩ : ∃ d, ds[i]? = some d := ⟨ds[i], List.getElem?_eq_getElem hi⟩
    obtain ⟨v, hv, _⟩ := r.get hd
    exact ⟨vs, v, SqL.of (ok.sub _ _ (l.1 _ _ h)), hv⟩
  yld := fun i W2 H M x H' l ok hi y => by
    rw [enumL_len] at hi
    obtain ⟨d, hd⟩ : ∃ d, ds[i]? = some d := ⟨ds[i], List.getElem?_eq_getElem hi⟩
    obtain ⟨v, hv, rv⟩ := r.get hd
    obtain ⟨T, z, rfl, hT, rfl, y⟩ := y
    have e2 := y vs (SqL.of (ok.sub _ _ (l.1 _ _ h)))
    rw [hv] at e2
    cases e2
    obtain ⟨ok', l'⟩ := ok.new (o := .tup [.int (i : Nat), v]) hT
    refine ⟨_, .tup [.int ((0 + i : Nat) : Int), d], by rw [enumL_get, hd] <;> rfl, Step.new ok hT, ok', ?_⟩
    rw [Nat.zero_add]
    exact rep_tup2 (by show upd W2.B T _ T = _; rw [upd_same]) (.int _) (rv.mono (l.trans l').1)
  stop := fun i W2 H M l ok hi => ⟨vs, SqL.of (ok.sub _ _ (l.1 _ _ h)), by rw [r.length]; rw [enumL_len] at hi; exact hi⟩
def i_enum (ms : Mx (List VD)) : Mx (List D) := fun ρ M => (ms ρ M).bind fun vs M1 => match vs with
  | [.d (.lst ds)] => .ok (enumL ds 0) M1
  | _ => .fail
theorem xi_enum {e : Expr} {ms : Mx (List VD)} {elts : List Expr} {kk : Nat} {tpos p pos : Pos} (hK : C.K = X.K) (hm : X.mg "enumerate" = none) (h : PXA X C E [e] ms) (hg : Gl X "enumerate" := by rfl) (hs : starEach [e] X.env = [(false, eval e X.env)] := by rfl) : PXI X C E (.Tuple elts kk tpos) (.Call (.Name "enumerate" p) [e] [] pos) (i_enum ms) := by
  obtain ⟨ta, pa, sa⟩ := h
  refine ⟨_, pi_enum hg hm pa hs, fun W σ H ρ M R ok sl p => ?_⟩
  refine sa W σ H ρ M _ ok sl (post_bind p fun a M1 W1 H1 x l1 ok1 ra p1 => ?_)
  split at p1
  · rename_i _ ds
    obtain ⟨y, rfl, r⟩ := ra.one
    cases (show Rep C W1.B y (.lst ds) from r) with
    | lst h1 h2 =>
      rw [← hK]
      exact ⟨_, _, rfl, SqL.of (ok1.sub _ _ h1), post_ok p1 ok1 (walks_enum h1 h2)⟩
  · exact p1.elim
def zipL : List D → List D → List D
  | a :: as, b :: bs => .tup [a, b] :: zipL as bs
  | _, _ => []
theorem zipL_get : ∀ (xs ys : List D) (i : Nat) (a b : D), xs[i]? = some a → ys[i]? = some b → (zipL xs ys)[i]? = some (.tup [a, b])
  | [], _, _, _, _, h, _ => by simp at h
  | _ :: _, [], _, _, _, _, h => by simp at h
  | x :: xs, y :: ys, 0, a, b, h1, h2 => by
    simp at h1 h2
    subst h1 h2
    rfl
  | x :: xs, y :: ys, i + 1, a, b, h1, h2 => by
    simp at h1 h2
    simp only [zipL, List.getElem?_cons_succ]
    exact zipL_get xs ys i a b h1 h2
theorem zipL_len : ∀ (xs ys : List D), (zipL xs ys).length = min xs.length ys.length
  | [], _ => by simp [zipL]
  | _ :: _, [] => by simp [zipL]
  | x :: xs, y :: ys => by
    simp only [zipL, List.length_cons, zipL_len xs ys]
    omega
theorem walks_zip {W : Wd} {a b : Addr} {vs ws : List V} {ds es : List D} (h : W.B a = some (.lst vs)) (r : RepA C W.B vs ds) (h' : W.B b = some (.lst ws)) (r' : RepA C W.B ws es) : Walks C (Itz C.K a b) (zipL ds es) W where
  go := fun i W2 H M l ok hi => by
    rw [zipL_len] at hi
    obtain ⟨d, hd⟩ : ∃ d, ds[i]? = some d := ⟨ds[i], List.getElem?_eq_getElem (by omega)⟩
    obtain ⟨v, hv, _⟩ := r.get hd
    obtain ⟨e, he⟩ : ∃ d, es[i]? = some d := ⟨es[i], List.getElem?_eq_getElem (by omega)⟩
    obtain ⟨u, hu, _⟩ := r'.get he
    exact ⟨vs, ws, v, u, SqL.of (ok.sub _ _ (l.1 _ _ h)), SqL.of (ok.sub _ _ (l.1 _ _ h')), hv, hu⟩
  yld := fun i W2 H M x H' l ok hi y => by
    rw [zipL_len] at hi
    obtain ⟨d, hd⟩ : ∃ d, ds[i]? = some d := ⟨ds[i], List.getElem?_eq_getElem (by omega)⟩
    obtain ⟨v, hv, rv⟩ := r.get hd
    obtain ⟨e, he⟩ : ∃ d, es[i]? = some d := ⟨es[i], List.getElem?_eq_getElem (by omega)⟩
    obtain ⟨u, hu, ru⟩ := r'.get he
    obtain ⟨T, z1, z2, rfl, hT, rfl, y1, y2⟩ := y
    have e1 := y1 vs (SqL.of (ok.sub _ _ (l.1 _ _ h)))
    rw [hv] at e1
    cases e1
    have e2 := y2 ws (SqL.of (ok.sub _ _ (l.1 _ _ h')))
    rw [hu] at e2
    cases e2
    obtain ⟨ok', l'⟩ := ok.new (o := .tup [v, u]) hT
    refine ⟨_, .tup [d, e], zipL_get _ _ _ _ _ hd he, Step.new ok hT, ok', ?_⟩
    exact rep_tup2 (by show upd W2.B T _ T = _; rw [upd_same]) (rv.mono (l.trans l').1) (ru.mono (l.trans l').1)
  stop := fun i W2 H M l ok hi => ⟨vs, ws, SqL.of (ok.sub _ _ (l.1 _ _ h)), SqL.of (ok.sub _ _ (l.1 _ _ h')), by rw [r.length, r'.length]; rw [zipL_len] at hi; omega⟩
theorem walks_zipT {W : Wd} {a b : Addr} {vs ws : List V} {ds es : List D} (h : SqT C.K W.B a vs) (r : RepA C W.B vs ds) (h' : SqT C.K W.B b ws) (r' : RepA C W.B ws es) : Walks C (RZ.ItzT C.K a b) (zipL ds es) W where
  go := fun i W2 H M l ok hi => by
    rw [zipL_len] at hi
    obtain ⟨d, hd⟩ : ∃ d, ds[i]? = some d := ⟨ds[i], List.getElem?_eq_getElem (by omega)⟩
    obtain ⟨v, hv, _⟩ := r.get hd
    obtain ⟨e, he⟩ : ∃ d, es[i]? = some d := ⟨es[i], List.getElem?_eq_getElem (by omega)⟩
    obtain ⟨u, hu, _⟩ := r'.get he
    exact ⟨vs, ws, v, u, sqT_sub ok.sub (sqT_sub l.1 h), sqT_sub ok.sub (sqT_sub l.1 h'), hv, hu⟩
  yld := fun i W2 H M x H' l ok hi y => by
    rw [zipL_len] at hi
    obtain ⟨d, hd⟩ : ∃ d, ds[i]? = some d := ⟨ds[i], List.getElem?_eq_getElem (by omega)⟩
    obtain ⟨v, hv, rv⟩ := r.get hd
    obtain ⟨e, he⟩ : ∃ d, es[i]? = some d := ⟨es[i], List.getElem?_eq_getElem (by omega)⟩
    obtain ⟨u, hu, ru⟩ := r'.get he
    obtain ⟨T, z1, z2, rfl, hT, rfl, y1, y2⟩ := y
    have e1 := y1 vs (sqT_sub ok.sub (sqT_sub l.1 h))
    rw [hv] at e1
    cases e1
    have e2 := y2 ws (sqT_sub ok.sub (sqT_sub l.1 h'))
    rw [hu] at e2
    cases e2
    obtain ⟨ok', l'⟩ := ok.new (o := .tup [v, u]) hT
    refine ⟨_, .tup [d, e], zipL_get _ _ _ _ _ hd he, Step.new ok hT, ok', ?_⟩
    exact rep_tup2 (by show upd W2.B T _ T = _; rw [upd_same]) (rv.mono (l.trans l').1) (ru.mono (l.trans l').1)
  stop := fun i W2 H M l ok hi => ⟨vs, ws, sqT_sub ok.sub (sqT_sub l.1 h), sqT_sub ok.sub (sqT_sub l.1 h'), by rw [r.length, r'.length]; rw [zipL_len] at hi; omega⟩
def zipI (vs : List VD) (M : Mem) : Res (List D) := match vs with
  | [.d (.lst ds), .d (.lst es)] => .ok (zipL ds es) M
  | [.d (.tup ds), .d (.tup es)] => .ok (zipL ds es) M
  | _ => .fail
def i_zip (ms : Mx (List VD)) : Mx (List D) := fun ρ M => (ms ρ M).bind zipI
theorem xi_zip {e e2 : Expr} {ms : Mx (List VD)} {elts : List Expr} {kk : Nat} {tpos p pos : Pos} (hK : C.K = X.K) (hm : X.mg "zip" = none) (h : PXA X C E [e, e2] ms) (hg : Gl X "zip" := by rfl) (hs : starEach [e, e2] X.env = (false, eval e X.env) :: starEach [e2] X.env := by rfl) (hpl : (backTo pos (starEach [e2] X.env)).any (·.1) = false := by rfl) :
    PXI X C E (.Tuple elts kk tpos) (.Call (.Name "zip" p) [e, e2] [] pos) (i_zip ms) := by
  obtain ⟨ta, pa, sa⟩ := h
  refine ⟨_, RZ.pi_zipA hg hm pa hs hpl, fun W σ H ρ M R ok sl p => ?_⟩
  refine sa W σ H ρ M _ ok sl (post_bind p fun a M1 W1 H1 x l1 ok1 ra p1 => ?_)
  unfold zipI at p1
  split at p1
  · rename_i _ ds es
    obtain ⟨y, z, rfl, r1, r2⟩ := ra.two
    cases (show Rep C W1.B y (.lst ds) from r1) with
    | lst h1 h2 =>
      cases (show Rep C W1.B z (.lst es) from r2) with
      | lst h3 h4 =>
        rw [← hK]
        exact ⟨_, _, _, _, rfl, .inl ⟨SqL.of (ok1.sub _ _ h1), SqL.of (ok1.sub _ _ h3), post_ok p1 ok1 (walks_zip h1 h2 h3 h4)⟩⟩
  · rename_i _ ds es
    obtain ⟨y, z, rfl, r1, r2⟩ := ra.two
    cases (show Rep C W1.B y (.tup ds) from r1) with
    | tup h1 h2 =>
      cases (show Rep C W1.B z (.tup es) from r2) with
      | tup h3 h4 =>
        rw [← hK]
        exact ⟨_, _, _, _, rfl, .inr ⟨sqT_sub ok1.sub h1, sqT_sub ok1.sub h3, post_ok p1 ok1 (walks_zipT h1 h2 h3 h4)⟩⟩
  · exact p1.elim
/-! targets -/
def SemG (C : Cf) (ts : List Nat) (g : TG) (mg : VD → Env → Option Env) : Prop := ∀ W σ H ρ M x v Q, Ok C W H M → Slots C W σ ρ → RepV C W x v →
  (match mg v ρ with
    | some ρ' => ∀ σ', Slots C W σ' ρ' → (∀ vs : List Nat, (∀ j ∈ ts, j ∈ vs) → wipe σ' vs = wipe σ vs) → Q σ' H
    | none => False) → g x σ H Q
def SemGs (C : Cf) (ts : List Nat) (g : TGs) (mg : List VD → Env → Option Env) : Prop := ∀ W σ H ρ M xs vs Q, Ok C W H M → Slots C W σ ρ → RepVA C W xs vs →
  (match mg vs ρ with
    | some ρ' => ∀ σ', Slots C W σ' ρ' → (∀ vs : List Nat, (∀ j ∈ ts, j ∈ vs) → wipe σ' vs = wipe σ vs) → Q σ' H
    | none => False) → g xs σ H Q
structure PXG (X : Cx) (C : Cf) (ts : List Nat) (tg : Expr) (mg : VD → Env → Option Env) : Prop where
  ex : ∃ g, PG X tg g ∧ SemG C ts g mg
structure PXGs (X : Cx) (C : Cf) (ts : List Nat) (tgs : List Expr) (mg : List VD → Env → Option Env) : Prop where
  ex : ∃ g, PGs X tgs g ∧ SemGs C ts g mg
theorem wipe_set_in {σ : L2.St} {i : Nat} {o : Option V} : ∀ {vs : List Nat}, i ∈ vs → wipe (σ.set i o) vs = wipe σ vs
  | [], h => by simp at h
  | v :: vs, h => by
    unfold wipe
    by_cases e : i ∈ vs
    · rw [wipe_set_in e]
    · have e2 : i = v := by simpa [e] using h
      subst e2
      have q : ∀ {us : List Nat}, i ∉ us → wipe (σ.set i o) us = (wipe σ us).set i o := fun {us} => by
        induction us with
        | nil => intro _; rfl
        | cons u us ih =>
          intro h
          simp only [List.mem_cons, not_or] at h
          unfold wipe
          rw [ih h.2, List.set_comm _ _ h.1]
      rw [q e, List.set_set]
theorem wipe_idem {σ : L2.St} : ∀ {vs us : List Nat}, (∀ j ∈ vs, j ∈ us) → wipe (wipe σ vs) us = wipe σ us
  | [], _, _ => rfl
  | v :: vs, us, h => by
    show wipe ((wipe σ vs).set v none) us = _
    rw [wipe_set_in (h v List.mem_cons_self)]
    exact wipe_idem fun j hj => h j (List.mem_cons_of_mem _ hj)
def g_name (i : Nat) : VD → Env → Option Env := fun v ρ => some (ρ.set i (some v))
theorem xg_name {i : Nat} {x : Str} {pos : Pos} (hN : X.N.Nodup) (hi : X.N[i]? = some x := by rfl) (hx : Loc X.env.scope x := by first | exact Or.inl rfl | exact Or.inr rfl) (hf : X.fn x = true ∨ X.env.scope.names.lookup x = some .local := by first | exact .inl rfl | exact .inr rfl) : PXG X C [i] (.Name x pos) (g_name i) :=
  ⟨_, pg_name hN hi hx hf, fun W σ H ρ M x v Q ok sl r h => h _ (sl.set r) fun vs hv => wipe_set_in (hv i (by simp))⟩
def g_nil : List VD → Env → Option Env
  | [], ρ => some ρ
  | _, _ => none
def g_cons (g : VD → Env → Option Env) (gs : List VD → Env → Option Env) : List VD → Env → Option Env
  | v :: vs, ρ => (g v ρ).bind (gs vs)
  | [], _ => none
theorem xgs_nil : PXGs X C [] [] g_nil := ⟨_, pgs_nil, fun W σ H ρ M xs vs Q ok sl r h => by
  cases r with
  | nil => exact ⟨rfl, h σ sl fun _ _ => rfl⟩
  | cons _ _ => exact h.elim⟩
theorem xgs_cons {ts us : List Nat} {e : Expr} {es : List Expr} {g gs} (h1 : PXG X C ts e g) (h2 : PXGs X C us es gs) (hs : (assignEach (e :: es) X.env).map (·.2) = assign e X.env :: (assignEach es X.env).map (·.2) := by rfl) : PXGs X C (ts ++ us) (e :: es) (g_cons g gs) := by
  obtain ⟨t, p1, s1⟩ := h1
  obtain ⟨u, p2, s2⟩ := h2
  refine ⟨_, pgs_cons p1 p2 hs, fun W σ H ρ M xs vs Q ok sl r h => ?_⟩
  cases r with
  | nil => exact h.elim
  | @cons x xs v vs rv rr =>
    refine ⟨_, _, rfl, s1 W σ H ρ M x v _ ok sl rv ?_⟩
    cases q : g v ρ with
    | none =>
      rw [show g_cons g gs (v :: vs) ρ = none by simp [g_cons, q]] at h
      exact h.elim
    | some ρ1 =>
      intro σ1 sl1 w1
      rw [show g_cons g gs (v :: vs) ρ = gs vs ρ1 by simp [g_cons, q]] at h
      refine s2 W σ1 H ρ1 M xs vs _ ok sl1 rr ?_
      cases q2 : gs vs ρ1 with
      | none =>
        rw [q2] at h
        exact h.elim
      | some ρ2 =>
        rw [q2] at h
        intro σ2 sl2 w2
        refine h σ2 sl2 fun vs hv => ?_
        rw [w2 vs fun j hj => hv j (List.mem_append_right _ hj), w1 vs fun j hj => hv j (List.mem_append_left _ hj)]
def g_tup (n : Nat) (gs : List VD → Env → Option Env) : VD → Env → Option Env
  | .d (.tup ds), ρ => if ds.length = n then gs (ds.map .d) ρ else none
  | _, _ => none
theorem RepA.vd {W : Wd} : ∀ {vs : List V} {ds : List D}, RepA C W.B vs ds → RepVA C W vs (ds.map .d)
  | _, _, .nil => .nil
  | _, _, .cons h r => .cons h (RepA.vd r)
theorem xg_tup {ts : List Nat} {es : List Expr} {kk n : Nat} {gs} {pos : Pos} (c : Cxx X C E CX k) (h : PXGs X C ts es gs) (hn : (assignEach es X.env).length = n := by rfl) (hst : (assignEach es X.env).findIdx? (·.1) = none := by rfl) : PXG X C ts (.Tuple es kk pos) (g_tup n gs) := by
  obtain ⟨t, p, s⟩ := h
  refine ⟨_, pg_tup (n := n) c.calm p hn hst, fun W σ H ρ M x v Q ok sl r h => ?_⟩
  cases q : g_tup n gs v ρ with
  | none =>
    rw [q] at h
    exact h.elim
  | some ρ' =>
    rw [q] at h
    unfold g_tup at q
    split at q
    · rename_i _ ds
      split at q
      · rename_i hl
        cases (show Rep C W.B x (.tup ds) from r) with
        | tup h1 h2 =>
          refine ⟨_, _, rfl, by rw [← c.K]; exact sqT_sub ok.sub h1, by rw [h2.length]; exact hl, s W σ H _ M _ _ Q ok sl (RepA.vd h2) (by rw [q]; exact h)⟩
      · cases q
    · cases q
end
end G

namespace G
open PySem PySem.Spec PyProof.Rows L2
section
variable {X : Cx} {C : Cf} {E : XK} {CX : CXT} {k : Nat}
/-! comprehensions -/
def wipeE (ρ : Env) : List Nat → Env
  | [] => ρ
  | v :: vs => (wipeE ρ vs).set v none
theorem Slots.wipe {W : Wd} {σ : L2.St} {ρ : Env} (h : Slots C W σ ρ) : ∀ vs : List Nat, Slots C W (L2.wipe σ vs) (wipeE ρ vs)
  | [] => h
  | v :: vs => (Slots.wipe h vs).unset
def compL (turn : D → Mem → Res (Option D)) : List D → Mem → List D → Res (List D)
  | [], M, acc => .ok acc M
  | x :: xs, M, acc => match turn x M with
    | .ok (some d) M1 => if acc.length < lim then compL turn xs M1 (acc ++ [d]) else .fail
    | .ok none M1 => compL turn xs M1 acc
    | _ => .fail
def cTurn (vs : List Nat) (mg : VD → Env → Option Env) (mt : Mx Bool) (me : Mx VD) (ρ : Env) (d : D) (M : Mem) : Res (Option D) := match mg (.d d) (wipeE ρ vs) with
  | none => .fail
  | some ρ2 => match mt ρ2 M with
    | .ok true M2 => match me ρ2 M2 with
      | .ok (.d x) M3 => .ok (some x) M3
      | _ => .fail
    | .ok false M2 => .ok none M2
    | _ => .fail
def e_comp (vs : List Nat) (mi : Mx (List D)) (mg : VD → Env → Option Env) (mt : Mx Bool) (me : Mx VD) : Mx VD := fun ρ M => (mi ρ M).bind fun items M1 => (compL (cTurn vs mg mt me ρ) items M1 []).bind fun ds M2 => .ok (.d (.lst ds)) M2
def e_yes : Mx Bool := fun _ M => .ok true M
theorem cTurn_none {vs mg mt me} {ρ : Env} {d : D} {M M' : Mem} (h : cTurn vs mg mt me ρ d M = .ok none M') : ∃ ρ2, mg (.d d) (wipeE ρ vs) = some ρ2 ∧ mt ρ2 M = .ok false M' := by
  unfold cTurn at h
  split at h
  · cases h
  · rename_i ρ2 e
    refine ⟨ρ2, e, ?_⟩
    split at h
    · split at h <;> cases h
    · rename_i e2
      cases h
      exact e2
    · cases h
theorem cTurn_some {vs mg mt me} {ρ : Env} {d z : D} {M M' : Mem} (h : cTurn vs mg mt me ρ d M = .ok (some z) M') : ∃ ρ2 M2, mg (.d d) (wipeE ρ vs) = some ρ2 ∧ mt ρ2 M = .ok true M2 ∧ me ρ2 M2 = .ok (.d z) M' := by
  unfold cTurn at h
  split at h
  · cases h
  · rename_i ρ2 e
    split at h
    · rename_i M2 e2
      refine ⟨ρ2, M2, e, e2, ?_⟩
      split at h
      · rename_i e3
        cases h
        exact e3
      · cases h
    · cases h
    · cases h
theorem sem_comp {wi : TI} {g : TG} {tt : TT} {te : TE} {vs ts : List Nat} {mi mg mt me} (hts : ∀ j ∈ ts, j ∈ vs) (si : SemI C E wi mi) (sg : SemG C ts g mg) (st : SemT C E0 tt mt) (se : Sem C E0 te me) : Sem C E (tLc wi g tt te vs) (e_comp vs mi mg mt me) := fun W σ H ρ M Q ok sl p => by
  refine si W σ H ρ M _ ok sl (post_bind p fun items M1 W1 H1 J l1 ok1 wk p1 => ?_)
  intro A hA
  -- the state between the turns
  refine ⟨fun i m H2 => m = items.length - i ∧ i ≤ items.length ∧ ∃ (W2 : Wd) (M2 : Mem) (vacc : List V) (acc : List D), Step W1 H1 W2 H2 ∧ Ok C W2 H2 M2 ∧ H2 A = some (.lst vacc) ∧ W2.B A = none ∧ (∀ j : Nat, W2.al[j]? ≠ some A) ∧ RepA C W2.B vacc acc ∧
    post C (relV C) E Q W1 H1 ((compL (cTurn vs mg mt me ρ) (items.drop i) M2 acc).bind fun ds M2 => .ok (.d (.lst ds)) M2), ?_, ?_⟩
  · refine ⟨_, rfl, Nat.zero_le _, W1, M1, [], [], Step.grow hA, ok1.grow (same_upd hA), upd_same, ok1.notB hA, fun j e => ok1.ne hA e rfl, .nil, ?_⟩
    rw [List.drop_zero]
    exact p1
  · rintro i m H2 ⟨rfl, hi, W2, M2, vacc, acc, s2, ok2, hD, hB, hal, racc, p2⟩
    by_cases hlt : i < items.length
    · refine .inr ⟨wk.go i W2 H2 M2 s2.le ok2 hlt, fun H' => ∃ m', m' < items.length - i ∧ (m' = items.length - (i + 1) ∧ i + 1 ≤ items.length ∧ ∃ (W2 : Wd) (M2 : Mem) (vacc : List V) (acc : List D), Step W1 H1 W2 H' ∧ Ok C W2 H' M2 ∧ H' A = some (.lst vacc) ∧ W2.B A = none ∧ (∀ j : Nat, W2.al[j]? ≠ some A) ∧ RepA C W2.B vacc acc ∧
        post C (relV C) E Q W1 H1 ((compL (cTurn vs mg mt me ρ) (items.drop (i + 1)) M2 acc).bind fun ds M2 => .ok (.d (.lst ds)) M2)), fun H' h => h, fun x H3 y => ?_⟩
      obtain ⟨W3, d, hd, s3, ok3, rx⟩ := wk.yld i W2 H2 M2 x H3 s2.le ok2 hlt y
      obtain ⟨hD3, hB3, hal3⟩ := s3.fr A _ hD hB hal nt_lst
      have e : items.drop i = d :: items.drop (i + 1) := by
        rw [List.drop_eq_getElem_cons hlt]
        have := (List.getElem?_eq_some_iff.mp hd).2
        rw [this]
      rw [e] at p2
      simp only [compL] at p2
      have sl3 := ((sl.mono l1.le).mono s2.le).mono s3.le
      refine sg W3 (L2.wipe σ vs) H3 (wipeE ρ vs) M2 x (.d d) _ ok3 (sl3.wipe vs) rx ?_
      cases q0 : cTurn vs mg mt me ρ d M2 with
      | fail =>
        rw [q0] at p2
        exact p2.elim
      | exc _ _ _ =>
        rw [q0] at p2
        exact p2.elim
      | ok o M5 =>
        rw [q0] at p2
        cases o with
        | none =>
          obtain ⟨ρ2, q, q2⟩ := cTurn_none q0
          rw [q]
          intro σ2 sl4 w4
          refine ⟨by rw [w4 vs hts, wipe_idem fun j h => h], ?_⟩
          refine st W3 σ2 H3 ρ2 M2 _ ok3 sl4 ?_
          rw [q2]
          intro W4 H4 b' s4 ok4 eb
          obtain ⟨hD4, hB4, hal4⟩ := s4.fr A _ hD3 hB3 hal3 nt_lst
          cases eb
          show ∃ m', _
          exact ⟨_, by omega, rfl, hlt, W4, M5, vacc, acc, (s2.trans s3).trans s4, ok4, hD4, hB4, hal4, (racc.mono s3.le.1).mono s4.le.1, p2⟩
        | some z =>
          obtain ⟨ρ2, M4, q, q2, q3⟩ := cTurn_some q0
          rw [q]
          intro σ2 sl4 w4
          refine ⟨by rw [w4 vs hts, wipe_idem fun j h => h], ?_⟩
          refine st W3 σ2 H3 ρ2 M2 _ ok3 sl4 ?_
          rw [q2]
          intro W4 H4 b' s4 ok4 eb
          obtain ⟨hD4, hB4, hal4⟩ := s4.fr A _ hD3 hB3 hal3 nt_lst
          cases eb
          show te σ2 H4 _
          refine se W4 σ2 H4 ρ2 M4 _ ok4 (sl4.mono s4.le) ?_
          rw [q3]
          intro W5 H5 y5 s5 ok5 r5
          obtain ⟨hD5, hB5, hal5⟩ := s5.fr A _ hD4 hB4 hal4 nt_lst
          have p2 : post C (relV C) E Q W1 H1 ((if acc.length < lim then compL (cTurn vs mg mt me ρ) (items.drop (i + 1)) M5 (acc ++ [z]) else Res.fail).bind fun ds M2 => .ok (.d (.lst ds)) M2) := p2
          split at p2
          · rename_i hl
            have racc5 : RepA C W5.B vacc acc := ((racc.mono s3.le.1).mono s4.le.1).mono s5.le.1
            refine ⟨vacc, hD5, by rw [racc.length]; exact lim_lt hl, _, by omega, rfl, hlt, W5, M5, vacc ++ [y5], acc ++ [z], ?_, ?_, upd_same, hB5, hal5, racc5.append (.cons r5 .nil), p2⟩
            · have sx := (((s2.trans s3).trans s4).trans s5)
              refine ⟨sx.le, fun a o h1 h2 h3 h4 => ?_⟩
              obtain ⟨q1, q2, q3⟩ := sx.fr a o h1 h2 h3 h4
              exact ⟨by rw [upd_ne (ne_of_none h1 hA)]; exact q1, q2, q3⟩
            · refine ⟨fun b u e => ?_, ok5.nd, ok5.len, fun j b n e1 e2 => ?_, tabs_write ok5.tab hD5 plain_lst, ok5.tbB, ok5.low⟩
              · rw [upd_ne (ne_of_none e hB5)]
                exact ok5.sub b u e
              · have ne : b ≠ A := fun q => hal5 j (by rw [← q]; exact e1)
                have q := ok5.mo j b n e1 e2
                cases n with
                | dead => exact q
                | lst ds =>
                  obtain ⟨q1, vs, q2, q3⟩ := q
                  exact ⟨q1, vs, by rw [upd_ne ne]; exact q2, q3⟩
                | ins c fs =>
                  obtain ⟨q1, dx, vs, q2, q3⟩ := q
                  exact ⟨q1, dx, vs, by rw [upd_ne ne]; exact q2, q3⟩
                | lsv ds =>
                  obtain ⟨q1, vs, q2, q3⟩ := q
                  exact ⟨q1, vs, by rw [upd_ne ne]; exact q2, q3⟩
          · exact p2.elim
    · have hi2 : i = items.length := by omega
      subst hi2
      refine .inl ⟨wk.stop _ W2 H2 M2 s2.le ok2 (Nat.le_refl _), ?_⟩
      rw [List.drop_length] at p2
      have p2 : post C (relV C) E Q W1 H1 (.ok (.d (.lst acc)) M2) := p2
      obtain ⟨ok6, l6⟩ := ok2.know hD hB hal (tab_nlst ok2.tab hD)
      exact p2 _ H2 _ (s2.put hA hB) ok6 (Rep.lst (by show upd W2.B A _ A = _; rw [upd_same]) (racc.mono l6.1))
structure PXTs (X : Cx) (C : Cf) (E : XK) (ifs : List Expr) (m : Mx Bool) : Prop where
  ex : ∃ tt, PTs X ifs tt ∧ SemT C E tt m
theorem xts_nil : PXTs X C E [] e_yes := ⟨_, pts_nil, fun W σ H ρ M Q ok sl p => post_ok p ok rfl⟩
theorem xts_one {c : Expr} {m : Mx Bool} (h : PXT X C E c m) : PXTs X C E [c] m := by
  obtain ⟨t, p, s⟩ := h
  exact ⟨_, pts_one p, s⟩
def teOf (C : Cf) (E : XK) (m : Mx VD) : TE := fun σ H Q => ∃ W ρ M, Ok C W H M ∧ Slots C W σ ρ ∧ post C (relV C) E Q W H (m ρ M)
def ttOf (C : Cf) (E : XK) (m : Mx Bool) : TT := fun σ H Q => ∃ W ρ M, Ok C W H M ∧ Slots C W σ ρ ∧ post C relB E Q W H (m ρ M)
def tgOf (C : Cf) (ts : List Nat) (mg : VD → Env → Option Env) : TG := fun x σ H Q => ∃ W ρ M v, Ok C W H M ∧ Slots C W σ ρ ∧ RepV C W x v ∧ (match mg v ρ with
    | some ρ' => ∀ σ', Slots C W σ' ρ' → (∀ vs : List Nat, (∀ j ∈ ts, j ∈ vs) → wipe σ' vs = wipe σ vs) → Q σ' H
    | none => False)
theorem PX.pe {e : Expr} {m : Mx VD} (h : PX X C E e m) : PE X e (teOf C E m) := by
  obtain ⟨te, p, s⟩ := h
  exact ⟨fun pins s1 σ H Q I ⟨W, ρ, M, ok, sl, q⟩ => p.run pins s1 σ H Q I (s W σ H ρ M Q ok sl q)⟩
theorem PXTs.pts {es : List Expr} {m : Mx Bool} (h : PXTs X C E es m) : PTs X es (ttOf C E m) := by
  obtain ⟨te, p, s⟩ := h
  exact ⟨fun pins s1 σ H Q I ⟨W, ρ, M, ok, sl, q⟩ => p.run pins s1 σ H Q I (s W σ H ρ M Q ok sl q)⟩
theorem PXG.pg {e : Expr} {ts : List Nat} {mg} (h : PXG X C ts e mg) : PG X e (tgOf C ts mg) := by
  obtain ⟨g, p, s⟩ := h
  exact ⟨fun pins s1 σ H x u Q I r ⟨W, ρ, M, v, ok, sl, rv, q⟩ => p.run pins s1 σ H x u Q I r (s W σ H ρ M x v Q ok sl rv q)⟩
theorem sem_te (m : Mx VD) : Sem C E (teOf C E m) m := fun W σ H ρ M Q ok sl p => ⟨W, ρ, M, ok, sl, p⟩
theorem sem_tt (m : Mx Bool) : SemT C E (ttOf C E m) m := fun W σ H ρ M Q ok sl p => ⟨W, ρ, M, ok, sl, p⟩
theorem sem_tg (ts : List Nat) (mg) : SemG C ts (tgOf C ts mg) mg := fun W σ H ρ M x v Q ok sl r p => ⟨W, ρ, M, v, ok, sl, r, p⟩
/-- the context of a comprehension's block -/
theorem Cxx.blk (c : Cxx X C E CX k) (s : Shared) (H : Hp) (scope : Scope) (env : PySem.Env) (fp : List Addr) : Cxx (X.blk s H scope env fp) C E0 CX k :=
  ⟨c.K, c.calm, c.nd, PassesOwn.never, c.pas0 _ rfl rfl, c.pas0, c.hr, LamX.takes0⟩
theorem x_comp {elt tg iter : Expr} {ifs : List Expr} {scope : Scope} {own : List (Str × Nat)} {pos : Pos} {ts : List Nat} {mi : Mx (List D)} {mg mt me} (c : Cxx X C E CX k) (hi : PXI X C E tg iter mi) (ok : BlkOk X.N X.env.scope scope own)
    (hg : ∀ (s : Shared) (H : Hp) (A : Addr) (cl : List (Str × Addr)) (fp : List Addr), Cxx (X.blk s H scope (compEnvC scope cl A X.env) fp) C E0 CX k → PXG (X.blk s H scope (compEnvC scope cl A X.env) fp) C ts tg mg)
    (ht : ∀ (s : Shared) (H : Hp) (A : Addr) (cl : List (Str × Addr)) (fp : List Addr), Cxx (X.blk s H scope (compEnvC scope cl A X.env) fp) C E0 CX k → PXTs (X.blk s H scope (compEnvC scope cl A X.env) fp) C E0 ifs mt)
    (he : ∀ (s : Shared) (H : Hp) (A : Addr) (cl : List (Str × Addr)) (fp : List Addr), Cxx (X.blk s H scope (compEnvC scope cl A X.env) fp) C E0 CX k → PX (X.blk s H scope (compEnvC scope cl A X.env) fp) C E0 elt me)
    (hts : ∀ j ∈ ts, j ∈ own.map (·.2) := by decide) (hs : ∀ x, foldedSetIterable iter X.env x = pure x := by intro _; rfl) : PX X C E (.ListComp elt [⟨tg, iter, ifs, 0⟩] scope pos) (e_comp (own.map (·.2)) mi mg mt me) := by
  obtain ⟨wi, pi, si⟩ := hi
  exact ⟨_, pe_lc c.calm c.nd pi ok (fun s H A cl fp => (hg s H A cl fp (c.blk s H scope _ fp)).pg) (fun s H A cl fp => (ht s H A cl fp (c.blk s H scope _ fp)).pts) (fun s H A cl fp => (he s H A cl fp (c.blk s H scope _ fp)).pe) hs,
    sem_comp hts si (sem_tg ts mg) (sem_tt mt) (sem_te me)⟩
/-! statements -/
inductive Out where
  | nx (ρ : Env) (M : Mem) | ret (v : VD) (M : Mem) | brk (ρ : Env) (M : Mem) | ct (ρ : Env) (M : Mem) | exc (c : Nat) (fs : List D) (M : Mem) | fail
def Out.seq (o : Out) (k : Env → Mem → Out) : Out := match o with
  | .nx ρ M => k ρ M
  | o => o
def Res.out {α : Type} (r : Res α) (k : α → Mem → Out) : Out := match r with
  | .ok v M => k v M
  | .exc c fs M => .exc c fs M
  | .fail => .fail
def postS (C : Cf) (E : XK) (D : Ends) (W : Wd) (H : Hp) (o : Out) : Prop := match o with
  | .nx ρ' M' => ∀ W' H' σ', Step W H W' H' → Ok C W' H' M' → Slots C W' σ' ρ' → D.nx σ' H'
  | .brk ρ' M' => ∀ W' H' σ', Step W H W' H' → Ok C W' H' M' → Slots C W' σ' ρ' → D.bk σ' H'
  | .ct ρ' M' => ∀ W' H' σ', Step W H W' H' → Ok C W' H' M' → Slots C W' σ' ρ' → D.ct σ' H'
  | .ret v M' => ∀ W' H' x, Step W H W' H' → Ok C W' H' M' → RepV C W' x v → D.rt x H'
  | .exc c fs M' => ePost C E W H c fs M'
  | .fail => False
abbrev Sx := Env → Mem → Out
def SemS (C : Cf) (E : XK) (ts : TS) (m : Sx) : Prop := ∀ W σ H ρ M D, Ok C W H M → Slots C W σ ρ → postS C E D W H (m ρ M) → ts D σ H
structure PXS (X : Cx) (C : Cf) (E : XK) (st : Stmt) (m : Sx) : Prop where
  ex : ∃ ts, PS X st ts ∧ SemS C E ts m
structure PXSs (X : Cx) (C : Cf) (E : XK) (st : List Stmt) (m : Sx) : Prop where
  ex : ∃ ts, PSs X st ts ∧ SemS C E ts m
theorem postS.mono {D : Ends} {W W' : Wd} {H H' : Hp} {o : Out} (l : Step W H W' H') (h : postS C E D W H o) : postS C E D W' H' o := by
  cases o with
  | nx ρ M => exact fun W2 H2 x l2 => h W2 H2 x (l.trans l2)
  | brk ρ M => exact fun W2 H2 x l2 => h W2 H2 x (l.trans l2)
  | ct ρ M => exact fun W2 H2 x l2 => h W2 H2 x (l.trans l2)
  | ret v M => exact fun W2 H2 x l2 => h W2 H2 x (l.trans l2)
  | exc c fs M => exact ePost.mono l h
  | fail => exact h
theorem post_out {α β : Type} {rel : Wd → β → α → Prop} {Q : β → Hp → Prop} {D : Ends} {W : Wd} {H : Hp} {r : Res α} {f : α → Mem → Out} (h : postS C E D W H (r.out f)) (hk : ∀ a M1 W1 H1 x, Step W H W1 H1 → Ok C W1 H1 M1 → rel W1 x a → postS C E D W1 H1 (f a M1) → Q x H1) : post C rel E Q W H r := by
  cases r with
  | ok v M => exact fun W1 H1 x l ok1 ra => hk v M W1 H1 x l ok1 ra (postS.mono l h)
  | exc c fs M => exact h
  | fail => exact h
theorem postS_nx {D : Ends} {W : Wd} {H : Hp} {ρ : Env} {M : Mem} {σ : L2.St} (p : postS C E D W H (.nx ρ M)) (ok : Ok C W H M) (sl : Slots C W σ ρ) : D.nx σ H := p W H σ (Step.refl _ _) ok sl
def s_skip : Sx := fun ρ M => .nx ρ M
def s_seq (a b : Sx) : Sx := fun ρ M => (a ρ M).seq b
theorem xss_nil : PXSs X C E [] s_skip := ⟨_, pss_nil, fun W σ H ρ M D ok sl p => postS_nx p ok sl⟩
theorem xss_one {st : Stmt} {m : Sx} (h : PXS X C E st m) : PXSs X C E [st] m := by
  obtain ⟨t, p, s⟩ := h
  exact ⟨_, pss_one p, s⟩
theorem sem_seq {t u : TS} {a b : Sx} (h1 : SemS C E t a) (h2 : SemS C E u b) : SemS C E (tSeq t u) (s_seq a b) := fun W σ H ρ M D ok sl p => by
  refine h1 W σ H ρ M _ ok sl ?_
  unfold s_seq at p
  cases q : a ρ M with
  | nx ρ1 M1 =>
    rw [q] at p
    exact fun W1 H1 σ1 l1 ok1 sl1 => h2 W1 σ1 H1 ρ1 M1 D ok1 sl1 (postS.mono l1 p)
  | brk _ _ => rw [q] at p; exact p
  | ct _ _ => rw [q] at p; exact p
  | ret _ _ => rw [q] at p; exact p
  | exc _ _ _ => rw [q] at p; exact p
  | fail => rw [q] at p; exact p
theorem xss_cons {st : Stmt} {rest : List Stmt} {a b : Sx} (h1 : PXS X C E st a) (h2 : PXSs X C E rest b) : PXSs X C E (st :: rest) (s_seq a b) := by
  obtain ⟨t, p1, s1⟩ := h1
  obtain ⟨u, p2, s2⟩ := h2
  exact ⟨_, pss_cons p1 p2, sem_seq s1 s2⟩
theorem xs_pass {pos : Pos} : PXS X C E (.Pass pos) s_skip := ⟨_, ps_pass, fun W σ H ρ M D ok sl p => postS_nx p ok sl⟩
def s_brk : Sx := fun ρ M => .brk ρ M
def s_ct : Sx := fun ρ M => .ct ρ M
theorem xs_break {pos : Pos} : PXS X C E (.Break pos) s_brk := ⟨_, ps_break, fun W σ H ρ M D ok sl p => p W H σ (Step.refl _ _) ok sl⟩
theorem xs_continue {pos : Pos} : PXS X C E (.Continue pos) s_ct := ⟨_, ps_continue, fun W σ H ρ M D ok sl p => p W H σ (Step.refl _ _) ok sl⟩
def s_fail : Sx := fun _ _ => .fail
theorem xs_never {st : Stmt} : PXS X C E st s_fail := ⟨_, ps_never, fun W σ H ρ M D ok sl p => p.elim⟩
def s_expr (m : Mx VD) : Sx := fun ρ M => (m ρ M).out fun _ M1 => .nx ρ M1
theorem xs_expr {e : Expr} {m : Mx VD} {pos : Pos} (h : PX X C E e m) (hs : swapsWith e none pos.line X.env = pure false := by rfl) : PXS X C E (.Expr e pos) (s_expr m) := by
  obtain ⟨t, p, s⟩ := h
  refine ⟨_, ps_expr p hs, fun W σ H ρ M D ok sl q => ?_⟩
  exact s W σ H ρ M _ ok sl (post_out q fun a M1 W1 H1 x l1 ok1 ra p1 => postS_nx p1 ok1 (sl.mono l1.le))
def s_ret (m : Mx VD) : Sx := fun ρ M => (m ρ M).out fun v M1 => .ret v M1
theorem xs_ret {e : Expr} {m : Mx VD} {pos : Pos} (h : PX X C E e m) : PXS X C E (.Return (some e) pos) (s_ret m) := by
  obtain ⟨t, p, s⟩ := h
  refine ⟨_, ps_ret p, fun W σ H ρ M D ok sl q => ?_⟩
  exact s W σ H ρ M _ ok sl (post_out q fun a M1 W1 H1 x l1 ok1 ra p1 => p1 W1 H1 x (Step.refl _ _) ok1 ra)
def s_retN : Sx := fun _ M => .ret (.d .non) M
theorem xs_retN {pos : Pos} : PXS X C E (.Return none pos) s_retN := ⟨_, ps_retN, fun W σ H ρ M D ok sl p => p W H _ (Step.refl _ _) ok .non⟩
def s_if (t : Mx Bool) (a b : Sx) : Sx := fun ρ M => (t ρ M).out fun c M1 => if c then a ρ M1 else b ρ M1
theorem xs_if {c : Expr} {a b : List Stmt} {mt : Mx Bool} {ma mb : Sx} {pos : Pos} (hc : PXT X C E c mt) (ha : PXSs X C E a ma) (hb : PXSs X C E b mb) : PXS X C E (.If c a b pos) (s_if mt ma mb) := by
  obtain ⟨t, p, s⟩ := hc
  obtain ⟨ta, pa, sa⟩ := ha
  obtain ⟨tb, pb, sb⟩ := hb
  refine ⟨_, ps_if p pa pb, fun W σ H ρ M D ok sl q => ?_⟩
  refine s W σ H ρ M _ ok sl (post_out q fun c M1 W1 H1 x l1 ok1 ra p1 => ?_)
  cases (show x = c from ra)
  cases c with
  | true => exact sa W1 σ H1 ρ M1 D ok1 (sl.mono l1.le) p1
  | false => exact sb W1 σ H1 ρ M1 D ok1 (sl.mono l1.le) p1
/-! stores -/
def s_asg (m : Mx VD) (mg : VD → Env → Option Env) : Sx := fun ρ M => (m ρ M).out fun v M1 => match mg v ρ with
  | some ρ' => .nx ρ' M1
  | none => .fail
theorem sem_asg {te : TE} {g : TG} {ts : List Nat} {m mg} (h : Sem C E te m) (hg : SemG C ts g mg) : SemS C E (tAsg te g) (s_asg m mg) := fun W σ H ρ M D ok sl q => by
  refine h W σ H ρ M _ ok sl (post_out q fun v M1 W1 H1 x l1 ok1 ra p1 => ?_)
  refine hg W1 σ H1 ρ M1 x v _ ok1 (sl.mono l1.le) ra ?_
  cases e : mg v ρ with
  | none =>
    rw [e] at p1
    exact p1.elim
  | some ρ' =>
    rw [e] at p1
    exact fun σ' sl' _ => postS_nx p1 ok1 sl'
theorem xs_set {i : Nat} {x : Str} {e : Expr} {m : Mx VD} {p' pos : Pos} (c : Cxx X C E CX k) (h : PX X C E e m) (hi : X.N[i]? = some x := by rfl) (hx : Loc X.env.scope x := by first | exact Or.inl rfl | exact Or.inr rfl) (hs : swapsWith e (some (.Name x p')) pos.line X.env = pure false := by rfl)
    (hf : X.fn x = true ∨ X.env.scope.names.lookup x = some .local := by first | exact .inl rfl | exact .inr rfl) : PXS X C E (.Assign [.Name x p'] e pos) (s_asg m (g_name i)) := by
  obtain ⟨t, p, s⟩ := h
  obtain ⟨g, pg, sg⟩ := xg_name (C := C) (pos := p') c.nd hi hx hf
  exact ⟨_, ps_set c.nd hi hx p hs hf, sem_asg (ts := [i]) s fun W σ H ρ M x v Q ok sl r h => h _ (sl.set r) fun vs hv => wipe_set_in (hv i (by simp))⟩
theorem xs_asg {tg e : Expr} {ts : List Nat} {m : Mx VD} {mg} {pos : Pos} (h : PX X C E e m) (hg : PXG X C ts tg mg) (hs : swapsWithSole [tg] e pos.line X.env = pure false := by rfl) (hw : swappedStores [tg] e X.env = pure none := by rfl) (h1 : (assignEach [tg] X.env).map (·.2) = [assign tg X.env] := by rfl) : PXS X C E (.Assign [tg] e pos) (s_asg m mg) := by
  obtain ⟨t, p, s⟩ := h
  obtain ⟨g, pg, sg⟩ := hg
  exact ⟨_, ps_asg p pg hs hw h1, sem_asg s sg⟩
theorem xs_setLc {i : Nat} {y : Str} {py spos : Pos} {elt tg iter : Expr} {ifs : List Expr} {scope : Scope} {own : List (Str × Nat)} {pos : Pos} {ts : List Nat} {mi : Mx (List D)} {mg mt me} (c : Cxx X C E CX k) (hi : PXI X C E tg iter mi) (ok : BlkOk X.N X.env.scope scope own)
    (hg : ∀ (s : Shared) (H : Hp) (A : Addr) (cl : List (Str × Addr)) (fp : List Addr), Cxx (X.blk s H scope (compEnvC scope cl A X.env) fp) C E0 CX k → PXG (X.blk s H scope (compEnvC scope cl A X.env) fp) C ts tg mg)
    (ht : ∀ (s : Shared) (H : Hp) (A : Addr) (cl : List (Str × Addr)) (fp : List Addr), Cxx (X.blk s H scope (compEnvC scope cl A X.env) fp) C E0 CX k → PXTs (X.blk s H scope (compEnvC scope cl A X.env) fp) C E0 ifs mt)
    (he : ∀ (s : Shared) (H : Hp) (A : Addr) (cl : List (Str × Addr)) (fp : List Addr), Cxx (X.blk s H scope (compEnvC scope cl A X.env) fp) C E0 CX k → PX (X.blk s H scope (compEnvC scope cl A X.env) fp) C E0 elt me)
    (hy : X.N[i]? = some y := by rfl) (hyl : X.env.scope.names.lookup y = some .local := by rfl) (hsw : swapsWith (.ListComp elt [⟨tg, iter, ifs, 0⟩] scope pos) (some (.Name y py)) spos.line X.env = pure true := by exact sw_true rfl rfl rfl (by decide +kernel))
    (hts : ∀ j ∈ ts, j ∈ own.map (·.2) := by decide) (hs : ∀ x, foldedSetIterable iter X.env x = pure x := by intro _; rfl) : PXS X C E (.Assign [.Name y py] (.ListComp elt [⟨tg, iter, ifs, 0⟩] scope pos) spos) (s_asg (e_comp (own.map (·.2)) mi mg mt me) (g_name i)) := by
  obtain ⟨wi, pi, si⟩ := hi
  exact ⟨_, ps_setLc c.calm c.nd hy hyl hsw pi ok (fun s H A cl fp => (hg s H A cl fp (c.blk s H scope _ fp)).pg) (fun s H A cl fp => (ht s H A cl fp (c.blk s H scope _ fp)).pts) (fun s H A cl fp => (he s H A cl fp (c.blk s H scope _ fp)).pe) hs,
    sem_asg (ts := [i]) (sem_comp hts si (sem_tg ts mg) (sem_tt mt) (sem_te me)) fun W σ H ρ M x v Q ok sl r h => h _ (sl.set r) fun vs hv => wipe_set_in (hv i (by simp))⟩
/-- a, b = e1, e2 -/
def s_par (i j : Nat) (ms : Mx (List VD)) : Sx := fun ρ M => (ms ρ M).out fun vs M1 => match vs with
  | [a, b] => .nx ((ρ.set i (some a)).set j (some b)) M1
  | _ => .fail
theorem xs_par {i j : Nat} {x y : Str} {a b : Expr} {ms : Mx (List VD)} {px py pt pos : Pos} {kt k2 pt2} (c : Cxx X C E CX k) (h : PXA X C E [a, b] ms) (hi : X.N[i]? = some x := by rfl) (hj : X.N[j]? = some y := by rfl) (hij : i ≠ j := by decide)
    (hx : X.env.scope.names.lookup x = some .local := by rfl) (hy : X.env.scope.names.lookup y = some .local := by rfl) (hw : swappedStores [.Tuple [.Name x px, .Name y py] kt pt] (.Tuple [a, b] k2 pt2) X.env = pure (some [x, y]) := by rfl)
    (hs : swapsWithSole [.Tuple [.Name x px, .Name y py] kt pt] (.Tuple [a, b] k2 pt2) pos.line X.env = pure false := by rfl) : PXS X C E (.Assign [.Tuple [.Name x px, .Name y py] kt pt] (.Tuple [a, b] k2 pt2) pos) (s_par i j ms) := by
  obtain ⟨t, p, s⟩ := h
  refine ⟨_, ps_par c.calm c.nd hi hj hij hx hy p hw hs, fun W σ H ρ M D ok sl q => ?_⟩
  refine s W σ H ρ M _ ok sl (post_out q fun vs M1 W1 H1 xs l1 ok1 ra p1 => ?_)
  split at p1
  · obtain ⟨x, y, rfl, r1, r2⟩ := RepVA.two ra
    exact ⟨x, y, rfl, postS_nx p1 ok1 (((sl.mono l1.le).set r1).set r2)⟩
  · exact p1.elim
/-! for -/
def forL (mg : VD → Env → Option Env) (body : Sx) : List D → Env → Mem → Out
  | [], ρ, M => .nx ρ M
  | x :: xs, ρ, M => match mg (.d x) ρ with
    | none => .fail
    | some ρ1 => match body ρ1 M with
      | .nx ρ2 M2 => forL mg body xs ρ2 M2
      | .ct ρ2 M2 => forL mg body xs ρ2 M2
      | .brk ρ2 M2 => .nx ρ2 M2
      | o => o
def s_for (mi : Mx (List D)) (mg : VD → Env → Option Env) (body : Sx) : Sx := fun ρ M => (mi ρ M).out fun items M1 => forL mg body items ρ M1
theorem sem_for {wi : TI} {g : TG} {tb : TS} {ts : List Nat} {mi mg body} (si : SemI C E wi mi) (sg : SemG C ts g mg) (sb : SemS C E tb body) : SemS C E (tFor wi g tb) (s_for mi mg body) := fun W σ H ρ M D ok sl p => by
  refine si W σ H ρ M _ ok sl (post_out p fun items M1 W1 H1 J l1 ok1 wk p1 => ?_)
  have wk : Walks C J items W1 := wk
  refine ⟨fun i m σ2 H2 => m = items.length - i ∧ i ≤ items.length ∧ ∃ (W2 : Wd) (M2 : Mem) (ρ2 : Env), Le W1 W2 ∧ Ok C W2 H2 M2 ∧ Slots C W2 σ2 ρ2 ∧ postS C E D W2 H2 (forL mg body (items.drop i) ρ2 M2), ?_, ?_⟩
  · refine ⟨_, rfl, Nat.zero_le _, W1, M1, ρ, Le.refl _, ok1, sl.mono l1.le, ?_⟩
    rw [List.drop_zero]
    exact p1
  · rintro i m σ2 H2 ⟨rfl, hi, W2, M2, ρ2, l2, ok2, sl2, p2⟩
    by_cases hlt : i < items.length
    · refine .inr ⟨wk.go i W2 H2 M2 l2 ok2 hlt, _, fun σ' H' h => ⟨_, Nat.sub_lt_sub_left hlt (Nat.lt_succ_self i), rfl, hlt, h⟩, fun x H3 y => ?_⟩
      obtain ⟨W3, d, hd, s3, ok3, rx⟩ := wk.yld i W2 H2 M2 x H3 l2 ok2 hlt y
      have e : items.drop i = d :: items.drop (i + 1) := by
        rw [List.drop_eq_getElem_cons hlt]
        have := (List.getElem?_eq_some_iff.mp hd).2
        rw [this]
      rw [e] at p2
      have p2 := postS.mono s3 p2
      unfold forL at p2
      refine sg W3 σ2 H3 ρ2 M2 x (.d d) _ ok3 (sl2.mono s3.le) rx ?_
      cases q : mg (.d d) ρ2 with
      | none =>
        rw [q] at p2
        exact p2.elim
      | some ρ3 =>
        rw [q] at p2
        dsimp only at p2
        intro σ3 sl3 _
        refine sb W3 σ3 H3 ρ3 M2 _ ok3 sl3 ?_
        cases q2 : body ρ3 M2 with
        | nx ρ4 M4 =>
          rw [q2] at p2
          exact fun W4 H4 σ4 s4 ok4 sl4 => ⟨W4, M4, ρ4, (l2.trans s3.le).trans s4.le, ok4, sl4, postS.mono s4 p2⟩
        | ct ρ4 M4 =>
          rw [q2] at p2
          exact fun W4 H4 σ4 s4 ok4 sl4 => ⟨W4, M4, ρ4, (l2.trans s3.le).trans s4.le, ok4, sl4, postS.mono s4 p2⟩
        | brk ρ4 M4 =>
          rw [q2] at p2
          exact p2
        | ret _ _ => rw [q2] at p2; exact p2
        | exc _ _ _ => rw [q2] at p2; exact p2
        | fail => rw [q2] at p2; exact p2
    · have hi2 : i = items.length := by omega
      subst hi2
      refine .inl ⟨wk.stop _ W2 H2 M2 l2 ok2 (Nat.le_refl _), ?_⟩
      rw [List.drop_length] at p2
      exact postS_nx p2 ok2 sl2
theorem xs_for {tg iter : Expr} {body : List Stmt} {ts : List Nat} {mi : Mx (List D)} {mg} {mb : Sx} {pos : Pos} (c : Cxx X C E CX k) (hi : PXI X C E tg iter mi) (hg : PXG X C ts tg mg) (hb : PXSs X C E body mb) (hs : ∀ x, foldedSetIterable iter X.env x = pure x := by intro _; rfl) : PXS X C E (.For tg iter body [] pos) (s_for mi mg mb) := by
  obtain ⟨wi, pi, si⟩ := hi
  obtain ⟨g, pg, sg⟩ := hg
  obtain ⟨tb, pb, sb⟩ := hb
  exact ⟨_, ps_for c.own c.calm pi pg pb hs, sem_for si sg sb⟩
/-! while -/
def whileL (t : Mx Bool) (body : Sx) : Nat → Env → Mem → Out
  | 0, _, _ => .fail
  | n + 1, ρ, M => match t ρ M with
    | .ok true M1 => match body ρ M1 with
      | .nx ρ2 M2 => whileL t body n ρ2 M2
      | .ct ρ2 M2 => whileL t body n ρ2 M2
      | .brk ρ2 M2 => .nx ρ2 M2
      | o => o
    | .ok false M1 => .nx ρ M1
    | .exc c fs M1 => .exc c fs M1
    | .fail => .fail
def s_while (n : Nat) (t : Mx Bool) (body : Sx) : Sx := whileL t body n
theorem sem_while {tc : TT} {tb : TS} {n : Nat} {t body} (st : SemT C E tc t) (sb : SemS C E tb body) : SemS C E (tWhile tc tb) (s_while n t body) := fun W σ H ρ M D ok sl p => by
  refine ⟨fun m σ2 H2 => ∃ (W2 : Wd) (M2 : Mem) (ρ2 : Env), Ok C W2 H2 M2 ∧ Slots C W2 σ2 ρ2 ∧ postS C E D W2 H2 (whileL t body m ρ2 M2), ⟨n, W, M, ρ, ok, sl, p⟩, ?_⟩
  rintro m σ2 H2 ⟨W2, M2, ρ2, ok2, sl2, p2⟩
  cases m with
  | zero => exact p2.elim
  | succ m =>
    unfold whileL at p2
    refine st W2 σ2 H2 ρ2 M2 _ ok2 sl2 ?_
    cases q : t ρ2 M2 with
    | fail =>
      rw [q] at p2
      exact p2
    | exc _ _ _ =>
      rw [q] at p2
      exact p2
    | ok b M3 =>
      rw [q] at p2
      intro W3 H3 b' s3 ok3 eb
      cases (show b' = b from eb)
      have p2 := postS.mono s3 p2
      cases b with
      | false => exact postS_nx p2 ok3 (sl2.mono s3.le)
      | true =>
        dsimp only at p2
        refine ⟨fun σ4 H4 => ∃ (W2 : Wd) (M2 : Mem) (ρ2 : Env), Ok C W2 H4 M2 ∧ Slots C W2 σ4 ρ2 ∧ postS C E D W2 H4 (whileL t body m ρ2 M2), fun σ' H' h => ⟨m, Nat.lt_succ_self m, h⟩, ?_⟩
        refine sb W3 σ2 H3 ρ2 M3 _ ok3 (sl2.mono s3.le) ?_
        cases q2 : body ρ2 M3 with
        | nx ρ4 M4 =>
          rw [q2] at p2
          exact fun W4 H4 σ4 s4 ok4 sl4 => ⟨W4, M4, ρ4, ok4, sl4, postS.mono s4 p2⟩
        | ct ρ4 M4 =>
          rw [q2] at p2
          exact fun W4 H4 σ4 s4 ok4 sl4 => ⟨W4, M4, ρ4, ok4, sl4, postS.mono s4 p2⟩
        | brk ρ4 M4 =>
          rw [q2] at p2
          exact p2
        | ret _ _ => rw [q2] at p2; exact p2
        | exc _ _ _ => rw [q2] at p2; exact p2
        | fail => rw [q2] at p2; exact p2
theorem xs_while {t : Expr} {body : List Stmt} (n : Nat) {mt : Mx Bool} {mb : Sx} {pos : Pos} (c : Cxx X C E CX k) (ht : PXT X C E t mt) (hb : PXSs X C E body mb) : PXS X C E (.While t body [] pos) (s_while n mt mb) := by
  obtain ⟨tt, pt, st⟩ := ht
  obtain ⟨tb, pb, sb⟩ := hb
  exact ⟨_, ps_while c.own pt pb, sem_while st sb⟩
/-! += of numbers -/
def s_aug (i : Nat) (f : Int → Int → Int) (m : Mx VD) : Sx := fun ρ M => match ρ[i]? with
  | some (some (.d (.int a))) => (m ρ M).out fun v M1 => match v with
    | .d (.int b) => .nx (ρ.set i (some (.d (.int (f a b))))) M1
    | _ => .fail
  | _ => .fail
theorem xs_aug {op : Operator} {f : Int → Int → Int} {i : Nat} {x : Str} {e : Expr} {m : Mx VD} {p' pos : Pos} (c : Cxx X C E CX k) (ho : PIp X op (ipI f)) (h : PX X C E e m) (hi : X.N[i]? = some x := by rfl) (hx : Loc X.env.scope x := by first | exact Or.inl rfl | exact Or.inr rfl)
    (hf : X.fn x = true ∨ X.env.scope.names.lookup x = some .local := by first | exact .inl rfl | exact .inr rfl) : PXS X C E (.AugAssign (.Name x p') op e pos) (s_aug i f m) := by
  obtain ⟨t, p, s⟩ := h
  refine ⟨_, ps_aug c.nd hi hx p ho hf, fun W σ H ρ M D ok sl q => ?_⟩
  unfold s_aug at q
  split at q
  · rename_i a e
    obtain ⟨v, h1, h2⟩ := sl.2 i _ e
    cases inv_int h2
    refine ⟨_, h1, s W σ H ρ M _ ok sl (post_out q fun v M1 W1 H1 x l1 ok1 ra p1 => ?_)⟩
    split at p1
    · cases inv_int ra
      exact ⟨_, _, rfl, rfl, postS_nx p1 ok1 ((sl.mono l1.le).set (v := .int _) (d := .d (.int _)) (.int _))⟩
    · exact p1.elim
  · exact q.elim
/-! a def -/
def runF (n : Nat) (body : Sx) (ds : List VD) (M : Mem) : Res VD := match body (ds.map some ++ List.replicate (n - ds.length) none) M with
  | .nx _ M1 => .ok (.d .non) M1
  | .ret v M1 => .ok v M1
  | .exc c fs M1 => .exc c fs M1
  | _ => .fail
def nox {α : Type} (r : Res α) : Res α := match r with
  | .ok v M => .ok v M
  | _ => .fail
/-- what was made on the way is let go -/
def vLt (n : Nat) : VD → Bool
  | .d _ => true
  | .adr i => decide (i < n)
def moLt (n : Nat) : MO → Bool
  | .ins _ fs => fs.all (vLt n)
  | .lsv fs => fs.all (vLt n)
  | _ => true
def trim (n : Nat) (r : Res VD) : Res VD := match r with
  | .ok v M => if vLt n v && (M.take n).all (moLt n) then .ok v (M.take n) else .ok v M
  | r => r
theorem RepV.take {W : Wd} {n : Nat} {x : V} {v : VD} (h : vLt n v = true) (r : RepV C W x v) : RepV C ⟨W.B, W.al.take n⟩ x v := by
  cases v with
  | d y => exact r
  | adr i =>
    obtain ⟨a, h1, h2⟩ := r
    have hi : i < n := of_decide_eq_true h
    exact ⟨a, h1, by show (W.al.take n)[i]? = _; rw [List.getElem?_take_of_lt hi]; exact h2⟩
theorem RepVA.take {W : Wd} {n : Nat} : ∀ {xs : List V} {vs : List VD}, vs.all (vLt n) = true → RepVA C W xs vs → RepVA C ⟨W.B, W.al.take n⟩ xs vs
  | _, _, _, .nil => .nil
  | _, _, h, .cons r rr => by
    rw [List.all_cons, Bool.and_eq_true] at h
    exact .cons (r.take h.1) (RepVA.take h.2 rr)
theorem Ok.take {W W' : Wd} {H H' : Hp} {M' : Mem} {n : Nat} (st : Step W H W' H') (ok : Ok C W' H' M') (hn : W.al.length ≤ n) (hm : (M'.take n).all (moLt n) = true) : Step W H ⟨W'.B, W'.al.take n⟩ H' ∧ Ok C ⟨W'.B, W'.al.take n⟩ H' (M'.take n) := by
  refine ⟨⟨⟨st.le.1, ?_⟩, fun a o h1 h2 h3 h4 => ?_⟩, ok.sub, ?_, ?_, fun i a m e1 e2 => ?_, ok.tab, ok.tbB, ok.low⟩
  · obtain ⟨l, e⟩ := st.le.2
    refine ⟨l.take (n - W.al.length), ?_⟩
    show W'.al.take n = _
    rw [e, List.take_append, List.take_of_length_le hn]
  · obtain ⟨q1, q2, q3⟩ := st.fr a o h1 h2 h3 h4
    refine ⟨q1, q2, fun i e => ?_⟩
    have e : (W'.al.take n)[i]? = some a := e
    rw [List.getElem?_take] at e
    split at e
    · exact q3 i e
    · cases e
  · exact List.Nodup.sublist (List.take_sublist _ _) ok.nd
  · show (W'.al.take n).length = _
    rw [List.length_take, List.length_take, ok.len]
  · have hm2 : moLt n m = true := List.all_eq_true.mp hm m (List.mem_of_getElem? e2)
    have e1 : (W'.al.take n)[i]? = some a := e1
    rw [List.getElem?_take] at e1
    split at e1
    · rename_i hi
      rw [List.getElem?_take_of_lt hi] at e2
      have q := ok.mo i a m e1 e2
      cases m with
      | dead => exact q
      | lst ds => exact q
      | ins c fs =>
        obtain ⟨q1, dx, vs, q2, q3, q4⟩ := q
        exact ⟨q1, dx, vs, q2, q3, q4.take hm2⟩
      | lsv ds =>
        obtain ⟨q1, vs, q2, q4⟩ := q
        exact ⟨q1, vs, q2, q4.take hm2⟩
    · cases e1
theorem slots_start {W : Wd} {N : List Str} {vs : List V} {ds : List VD} (r : RepVA C W vs ds) : Slots C W (L2.start N vs) (ds.map some ++ List.replicate (N.length - ds.length) none) := by
  have hl := r.length
  unfold L2.start
  refine ⟨by simp [hl], fun i d e => ?_⟩
  by_cases hi : i < ds.length
  · rw [List.getElem?_append_left (by simpa using hi), List.getElem?_map] at e
    cases q : ds[i]? with
    | none => rw [q] at e; cases e
    | some d' =>
      rw [q] at e
      cases e
      obtain ⟨v, h1, h2⟩ := r.get q
      refine ⟨v, ?_, h2⟩
      rw [List.getElem?_append_left (by simp [hl]; exact hi), List.getElem?_map, h1]
      rfl
  · rw [List.getElem?_append_right (by simpa using hi), List.getElem?_replicate] at e
    split at e <;> cases e
end
section
variable {P : Program} {w : World} {K : PySem.W.Frag} {mg : Str → Option Value} {base : Heap} {C : Cf}
/-- THE RULE for a def that lets nothing out -/
theorem fn_mk {x qual : Str} {st : Stmt} {f : Addr} {fd : FuncData} {N ps : List Str} {k n : Nat} {body : Sx} (F : Fun K x qual st f fd) (S : FnScope N ps (defScope st)) (hK : C.K = K) (hn : ps.length = n)
    (hb : ∀ (cdv : Value) (A : Around) (outer : List PySem.Env) (s : Shared) (H : Hp) (E : XK), Cxx (cxOf CX0 P w K mg base N qual (defScope st) f cdv A outer s H E).nox C E0 CX0 k → PXSs (cxOf CX0 P w K mg base N qual (defScope st) f cdv A outer s H E).nox C E0 (defBody st) body) :
    FnOk P w K mg base CX0 (k + 1) f fd ps (spD C n fun ds M => trim M.length (nox (runF N.length body ds M))) := by
  refine F.ok S (fun vs H Q E h => ?_) (fun cdv A outer s H vs Q E hr h => ?_)
  · rw [spD_len vs H Q E h, hn]
  · obtain ⟨W, M, ds, ok, r, hl, p⟩ := h
    obtain ⟨t, pt, st⟩ := hb cdv A outer s H E ⟨hK, rfl, S.nd, PassesOwn.never, pass0, fun _ _ _ => pass0, hr, LamX.takes0⟩
    refine ⟨t, pt, st W _ H _ M _ ok (slots_start r) ?_⟩
    dsimp only at p
    unfold nox runF at p
    have fin : ∀ {v : VD} {M1 : Mem}, post C (relV C) E Q W H (trim M.length (.ok v M1)) → ∀ W1 H1 x, Step W H W1 H1 → Ok C W1 H1 M1 → RepV C W1 x v → Q x H1 := fun {v M1} p W1 H1 x s1 ok1 r1 => by
      unfold trim at p
      dsimp only at p
      split at p
      · rename_i hc
        rw [Bool.and_eq_true] at hc
        obtain ⟨s2, ok2⟩ := Ok.take s1 ok1 (Nat.le_of_eq ok.len) hc.2
        exact p _ _ _ s2 ok2 (r1.take hc.1)
      · exact p _ _ _ s1 ok1 r1
    cases q : body (ds.map some ++ List.replicate (N.length - ds.length) none) M with
    | nx ρ M1 =>
      rw [q] at p
      exact fun W1 H1 σ1 s1 ok1 _ => fin (v := .d .non) p W1 H1 _ s1 ok1 (show Rep C W1.B V.non D.non from .non)
    | ret v M1 =>
      rw [q] at p
      exact fin p
    | brk _ _ => rw [q] at p; exact p.elim
    | ct _ _ => rw [q] at p; exact p.elim
    | exc _ _ _ => rw [q] at p; exact p.elim
    | fail => rw [q] at p; exact p.elim
def fnM (n : Nat) (body : Sx) : List VD → Mem → Res VD := fun ds M => trim M.length (nox (runF n body ds M))
end
end G

namespace G
open PySem PySem.Spec PyProof.Rows L2 TL
section
variable {X : Cx} {C : Cf} {E : XK} {CX : CXT} {k : Nat}
/-! a list, a tuple, a text walked -/
def anyI (v : VD) (M : Mem) : Res (List D) := match v with
  | .d (.lst ds) => .ok ds M
  | .d (.tup ds) => .ok ds M
  | .d (.str s) => .ok (chars s) M
  | _ => .fail
def i_any (a : Mx VD) : Mx (List D) := fun ρ M => (a ρ M).bind anyI
theorem PI.or {tg e : Expr} {w1 w2 : TI} (h1 : PI X tg e w1) (h2 : PI X tg e w2) : PI X tg e (fun σ H R => w1 σ H R ∨ w2 σ H R) := ⟨fun pins s σ H R I h => by
  rcases h with h | h
  · exact h1.run pins s σ H R I h
  · exact h2.run pins s σ H R I h⟩
theorem xi_any {tg e : Expr} {m : Mx VD} (hK : C.K = X.K) (h : PX X C E e m) : PXI X C E tg e (i_any m) := by
  obtain ⟨w1, p1, s1⟩ := xi_lst (tg := tg) hK h
  obtain ⟨w2, p2, s2⟩ := xi_tup (tg := tg) hK h
  obtain ⟨w3, p3, s3⟩ := xi_str (tg := tg) h
  refine ⟨_, PI.or p1 (PI.or p2 p3), fun W σ H ρ M R ok sl p => ?_⟩
  unfold i_any at p
  cases q : m ρ M with
  | fail =>
    rw [q] at p
    exact p.elim
  | exc c fs M1 =>
    rw [q] at p
    refine .inl (s1 W σ H ρ M R ok sl ?_)
    unfold i_lst
    rw [q]
    exact p
  | ok v M1 =>
    rw [q] at p
    have p : post C (relI C) E R W H (anyI v M1) := p
    unfold anyI at p
    split at p
    · refine .inl (s1 W σ H ρ M R ok sl ?_)
      unfold i_lst
      rw [q]
      exact p
    · refine .inr (.inl (s2 W σ H ρ M R ok sl ?_))
      unfold i_tup
      rw [q]
      exact p
    · refine .inr (.inr (s3 W σ H ρ M R ok sl ?_))
      unfold i_str
      rw [q]
      exact p
    · exact p.elim
/-! x.append(e), x a list that changes -/
def f_app (x v : VD) (M : Mem) : Res VD := match x, v with
  | .adr j, .d d => match M[j]? with
    | some (.lst ds) => if ds.length < lim then .ok (.d .non) (M.set j (.lst (ds ++ [d]))) else .fail
    | _ => .fail
  | _, _ => .fail
def e_app (a b : Mx VD) : Mx VD := fun ρ M => (a ρ M).bind fun x M1 => match lstOf M1 x with
  | some _ => (b ρ M1).bind fun v M2 => f_app x v M2
  | none => .fail
theorem x_app {o e : Expr} {a b : Mx VD} {apos cpos : Pos} (hK : C.K = X.K) (ha : PX X C E o a) (hb : PX X C E e b) (hbase : attributeBase o "append" X.env (eval o X.env) = eval o X.env := by rfl)
    (hfew : ((backTo cpos (starEach [e] X.env)).all (fun x => !x.1) && (backToKw cpos (keywordEach [] X.env)).all (fun x => x.1.isSome) && decide ([e].length + ([] : List Keyword).length + (if ([] : List Keyword).isEmpty then 0 else 1) < 30)) = true := by rfl)
    (hline : (apos.endLine == cpos.line) = true := by rfl) (hs : starEach [e] X.env = (false, eval e X.env) :: starEach [] X.env := by rfl) : PX X C E (.Call (.Attribute o "append" apos) [e] [] cpos) (e_app a b) := by
  obtain ⟨ta, pa, sa⟩ := ha
  obtain ⟨tb, pb, sb⟩ := hb
  refine ⟨_, pe_bm PySem.F.plainAttrs_list PySem.F.slot_list_append PySem.F.type_list_append mt_append pa (pa_cons pb pa_nil hs) hbase hfew hline hs, fun W σ H ρ M Q ok sl p => ?_⟩
  refine sa W σ H ρ M _ ok sl (post_bind p fun x M1 W1 H1 vx l1 ok1 ra p1 => ?_)
  split at p1
  · rename_i ds0 e0
    obtain ⟨p0, vs0, rfl, hs0, hr0⟩ := lst_read ok1 ra e0
    refine ⟨.inl ⟨rfl, _, SqL.of hs0⟩, ?_⟩
    refine sb W1 σ H1 ρ M1 _ ok1 (sl.mono l1.le) (post_bind p1 fun v M2 W2 H2 vv l2 ok2 rb p2 => ?_)
    have ra := ra.mono l2.le
    cases x with
    | d _ => cases v <;> exact p2.elim
    | adr j =>
      cases v with
      | adr _ => exact p2.elim
      | d d =>
        obtain ⟨q, eq, hq⟩ := ra
        cases eq
        unfold f_app at p2
        dsimp only at p2
        split at p2
        · rename_i ds e
          split at p2
          · rename_i hl
            obtain ⟨hB, vs, h1, h2⟩ := ok2.mo j _ _ hq e
            refine ⟨_, vs, vv, rfl, rfl, h1, by rw [h2.length]; exact lim_lt hl, ?_⟩
            have ok3 := ok2.write (o := .lst (vs ++ [vv])) (m := .lst (ds ++ [d])) hq e (fun z => by cases z) ⟨hB, _, upd_same, h2.append (.cons rb .nil)⟩
            exact p2 _ _ _ (Step.write hq) ok3 (show Rep C W2.B V.non D.non from .non)
          · exact p2.elim
        · exact p2.elim
  · exact p1.elim
/-! o[i] = e, o a list that changes -/
def f_seti (v o i : VD) (M : Mem) : Res Unit := match v, o, i with
  | .d d, .adr j, .d (.int i) => match M[j]? with
    | some (.lst ds) => match ixN ds.length i with
      | some n => .ok () (M.set j (.lst (ds.set n d)))
      | none => .fail
    | _ => .fail
  | _, _, _ => .fail
def s_seti (m o i : Mx VD) : Sx := fun ρ M => (m ρ M).out fun v M1 => (o ρ M1).out fun x M2 => (i ρ M2).out fun y M3 => (f_seti v x y M3).out fun _ M4 => .nx ρ M4
theorem xs_seti {o i e : Expr} {m mo mi : Mx VD} {p' pos : Pos} (h : PX X C E e m) (ho : PX X C E o mo) (hi : PX X C E i mi) (hs : swapsWithSole [.Subscript o i p'] e pos.line X.env = pure false := by rfl) (hw : swappedStores [.Subscript o i p'] e X.env = pure none := by rfl)
    (h1 : (assignEach [.Subscript o i p'] X.env).map (·.2) = [assign (.Subscript o i p') X.env] := by rfl) (ha : ∀ v, assign (.Subscript o i p') X.env v = (do
      let ov ← holding [v] (eval o X.env)
      let iv ← holding [v, ov] (eval i X.env)
      standAt p'
      holding [v, ov, iv] (setItem ov iv v)
      release [v, ov, iv] []) := by intro _; rfl) : PXS X C E (.Assign [.Subscript o i p'] e pos) (s_seti m mo mi) := by
  obtain ⟨t, pt, st⟩ := h
  obtain ⟨to, po, so⟩ := ho
  obtain ⟨ti, pi, si⟩ := hi
  refine ⟨_, ps_asg pt (pg_sub po pi set_list ha) hs hw h1, fun W σ H ρ M D ok sl p => ?_⟩
  refine st W σ H ρ M _ ok sl (post_out p fun v M1 W1 H1 vv l1 ok1 rv p1 => ?_)
  refine so W1 σ H1 ρ M1 _ ok1 (sl.mono l1.le) (post_out p1 fun x M2 W2 H2 vx l2 ok2 rx p2 => ?_)
  refine si W2 σ H2 ρ M2 _ ok2 ((sl.mono l1.le).mono l2.le) (post_out p2 fun y M3 W3 H3 vy l3 ok3 ry p3 => ?_)
  have rv := (rv.mono l2.le).mono l3.le
  have rx := rx.mono l3.le
  have sl3 := ((sl.mono l1.le).mono l2.le).mono l3.le
  cases q : f_seti v x y M3 with
  | fail =>
    rw [q] at p3
    exact p3.elim
  | exc _ _ _ =>
    unfold f_seti at q
    repeat (first | cases q | split at q)
  | ok u M4 =>
    rw [q] at p3
    have p3 : postS C E D W3 H3 (.nx ρ M4) := p3
    cases v with
    | adr _ => cases q
    | d d =>
      cases x with
      | d _ => cases q
      | adr j =>
        cases y with
        | adr _ => cases q
        | d y =>
          cases y with
          | int i =>
            obtain ⟨a, ea, hq⟩ := rx
            cases ea
            cases inv_int ry
            unfold f_seti at q
            dsimp only at q
            split at q
            · rename_i ds e
              split at q
              · rename_i n e2
                cases q
                obtain ⟨hB, vs, h1, h2⟩ := ok3.mo j _ _ hq e
                have ok4 := ok3.write (o := .lst (vs.set n vv)) (m := .lst (ds.set n d)) hq e (fun z => by cases z) ⟨hB, _, upd_same, RepA.set rv n h2⟩
                exact ⟨_, vs, i, n, rfl, rfl, h1, by rw [h2.length]; exact e2, p3 _ _ _ (Step.write hq) ok4 sl3⟩
              · cases q
            · cases q
          | non => cases q
          | bl _ => cases q
          | str _ => cases q
          | lst _ => cases q
          | tup _ => cases q
          | obj _ _ => cases q
          | scr _ => cases q
          | clo _ => cases q
          | exn _ _ => cases q
          | pv _ => cases q
/-! a list that changed is let be: ahead of a statement -/
def frz1 (i : Nat) (ρ : Env) (M : Mem) : Option (Env × Mem) := match ρ[i]? with
  | some (some (.adr j)) => match M[j]? with
    | some (.lst ds) => some (ρ.set i (some (.d (.lst ds))), M.set j .dead)
    | _ => none
  | some (some (.d (.lst ds))) => some (ρ, M)
  | _ => none
def s_frz (i : Nat) (s : Sx) : Sx := fun ρ M => match frz1 i ρ M with
  | some (ρ1, M1) => s ρ1 M1
  | none => .fail
theorem frz1_ok {W : Wd} {σ : L2.St} {H : Hp} {ρ ρ1 : Env} {M M1 : Mem} {i : Nat} (ok : Ok C W H M) (sl : Slots C W σ ρ) (h : frz1 i ρ M = some (ρ1, M1)) : ∃ W1, Step W H W1 H ∧ Ok C W1 H M1 ∧ Slots C W1 σ ρ1 := by
  unfold frz1 at h
  split at h
  · rename_i j e
    split at h
    · rename_i ds e2
      cases h
      obtain ⟨v, hv, a, rfl, ha⟩ := sl.2 i _ e
      obtain ⟨hB, vs, h1, h2⟩ := ok.mo j _ _ ha e2
      obtain ⟨ok', l⟩ := ok.freeze (o := .lst vs) ha e2 (fun z => by cases z) h1
      refine ⟨_, Step.freeze ha hB, ok', (sl.mono l).1.trans (by rw [List.length_set]), fun k d e3 => ?_⟩
      by_cases hk : i = k
      · subst hk
        rw [List.getElem?_set_self (List.getElem?_eq_some_iff.mp e).1] at e3
        cases e3
        exact ⟨_, hv, Rep.lst (by show upd W.B a _ a = _; rw [upd_same]) (h2.mono l.1)⟩
      · rw [List.getElem?_set_ne hk] at e3
        exact (sl.mono l).2 k d e3
    · cases h
  · cases h
    exact ⟨W, Step.refl _ _, ok, sl⟩
  · cases h
theorem xs_frz {st : Stmt} {m : Sx} (i : Nat) (h : PXS X C E st m) : PXS X C E st (s_frz i m) := by
  obtain ⟨t, pt, s⟩ := h
  refine ⟨t, pt, fun W σ H ρ M D ok sl p => ?_⟩
  unfold s_frz at p
  cases q : frz1 i ρ M with
  | none =>
    rw [q] at p
    exact p.elim
  | some r =>
    obtain ⟨ρ1, M1⟩ := r
    rw [q] at p
    obtain ⟨W1, s1, ok1, sl1⟩ := frz1_ok ok sl q
    exact s W1 σ H ρ1 M1 D ok1 sl1 (postS.mono s1 p)
/-! **, abs -/
noncomputable def f_pow : VD → VD → Mem → Res VD
  | .d (.int i), .d (.int j), M => gi (0 ≤ j ∧ j ≤ 1000000 ∧ i.natAbs < 2 ^ 64) (.ok (.d (.int (i ^ j.toNat))) M) .fail
  | _, _, _ => .fail
theorem p_pow : OpS C E (rI CPow fun i j => .int (i ^ j.toNat)) f_pow := fun W H M x y a b Q ok ra rb p => by
  unfold f_pow at p
  split at p
  · unfold gi at p
    split at p
    · rename_i h
      cases inv_int ra
      cases inv_int rb
      exact ⟨_, _, rfl, rfl, h, post_ok p ok (.int _)⟩
    · exact p.elim
  · exact p.elim
theorem x_pow {a b : Expr} {ma mb : Mx VD} {pos : Pos} (ha : PX X C E a ma) (hb : PX X C E b mb) : PX X C E (.BinOp a .Pow b pos) (e_op f_pow ma mb) := x_op op_pow p_pow ha hb
def f_abs : List VD → Mem → Res VD
  | [.d (.int i)], M => .ok (.d (.int (if i < 0 then -i else i))) M
  | _, _ => .fail
theorem p_abs : CallS C E (fun xs H Q => ∃ i, xs = [.int i] ∧ Q (.int (if i < 0 then -i else i)) H) f_abs := fun W H M xs as Q ok ra p => by
  unfold f_abs at p
  split at p
  · obtain ⟨x, rfl, r⟩ := ra.one
    cases inv_int r
    exact ⟨_, rfl, post_ok p ok (.int _)⟩
  · exact p.elim
/-! sep.join(texts) -/
theorem enc_tl (s : List Nat) : tl (enc s) = s := by simp [enc, tl]
theorem of_tl {x : Str} {s : List Nat} (h : tl x = s) : x = enc s := by
  cases x
  subst h
  simp [enc, tl]
theorem map_tl_enc (ss : List (List Nat)) : (ss.map enc).map tl = ss := by
  rw [List.map_map]
  conv => rhs; rw [← List.map_id ss]
  exact List.map_congr_left fun s _ => enc_tl s
def szs : List (List Nat) → Nat
  | [] => 0
  | s :: r => s.length + szs r
theorem szs_eq : ∀ ss : List (List Nat), ((ss.map enc).map (·.length)).sum = szs ss
  | [] => rfl
  | s :: r => by
    simp only [List.map_cons, List.sum_cons, szs, szs_eq r, enc_len]
def f_join : VD → VD → Mem → Res VD := fun a b M => match a with
  | .d (.str sep) => match (seqOf M b).bind stL with
    | some ss => if szs ss + ss.length * sep.length ≤ lim then .ok (.d (.str (TL.joinL sep ss))) M else .fail
    | none => .fail
  | _ => .fail
def isStr : VD → Bool
  | .d (.str _) => true
  | _ => false
theorem isStr_inv {W : Wd} {x : V} {a : VD} (h : isStr a = true) (r : RepV C W x a) : ∃ s, a = .d (.str s) ∧ x = .str (enc s) := by
  cases a with
  | adr _ => cases h
  | d y =>
    cases y with
    | str s => exact ⟨s, rfl, inv_str r⟩
    | non => cases h
    | bl _ => cases h
    | int _ => cases h
    | lst _ => cases h
    | tup _ => cases h
    | obj _ _ => cases h
    | scr _ => cases h
    | clo _ => cases h
    | exn _ _ => cases h
    | pv _ => cases h
/-- a text's method with one argument -/
def e_m1 (f : VD → VD → Mem → Res VD) (a b : Mx VD) : Mx VD := fun ρ M => (a ρ M).bind fun x M1 => if isStr x then (b ρ M1).bind fun y M2 => f x y M2 else .fail
theorem sem_m1 {r : V → List V → Hp → VK → Prop} {f} {ta tb : TE} {ma mb : Mx VD} (hr : OpS C E (fun x y H Q => r x [y] H Q) f) (ha : Sem C E ta ma) (hb : Sem C E tb mb) : Sem C E (tM1 r ta tb) (e_m1 f ma mb) := fun W σ H ρ M Q ok sl p => by
  refine ha W σ H ρ M _ ok sl (post_bind p fun a M1 W1 H1 x l1 ok1 ra p1 => ?_)
  split at p1
  · rename_i hs
    obtain ⟨s, ea, ex⟩ := isStr_inv hs ra
    refine ⟨⟨_, ex⟩, ?_⟩
    refine hb W1 σ H1 ρ M1 _ ok1 (sl.mono l1.le) (post_bind p1 fun b M2 W2 H2 y l2 ok2 rb p2 => ?_)
    exact hr W2 H2 M2 x y a b Q ok2 (ra.mono l2.le) rb p2
  · exact p1.elim
theorem strs_read {W : Wd} {H : Hp} {M : Mem} {x : V} {a : VD} {ss : List (List Nat)} (ok : Ok C W H M) (r : RepV C W x a) (h : (seqOf M a).bind stL = some ss) : ∃ p, x = .ref p ∧ (SqL C.K H p ((ss.map enc).map V.str) ∨ SqT C.K H p ((ss.map enc).map V.str)) := by
  cases q : seqOf M a with
  | none =>
    rw [q] at h
    cases h
  | some ds =>
    rw [q] at h
    obtain ⟨p, vs, rfl, hs, hr⟩ := seq_read ok r q
    rw [hr.stL h] at hs
    exact ⟨p, rfl, hs⟩
theorem p_join : OpS C E (fun x y H Q => ∃ a p, ∃ ys : List Str, x = .str a ∧ [y] = [.ref p] ∧ (SqL C.K H p (ys.map V.str) ∨ SqT C.K H p (ys.map V.str)) ∧ (ys.map (·.length)).sum + ys.length * a.length ≤ 16777216 ∧ Q (.str (Txt.join a ys)) H) f_join := fun W H M x y a b Q ok ra rb p => by
  unfold f_join at p
  split at p
  · rename_i sep
    split at p
    · rename_i ss e
      split at p
      · rename_i hl
        cases inv_str ra
        obtain ⟨q, rfl, hs⟩ := strs_read ok rb e
        refine ⟨_, q, ss.map enc, rfl, rfl, hs, ?_, ?_⟩
        · rw [szs_eq, List.length_map, enc_len]
          exact Nat.le_trans hl (by decide)
        · have e2 : Txt.join (enc sep) (ss.map enc) = enc (TL.joinL sep ss) := of_tl (by rw [join_eq, tl_join, enc_tl, map_tl_enc])
          rw [e2]
          exact post_ok p ok (.str _)
      · exact p.elim
    · exact p.elim
  · exact p.elim
theorem x_join {o e : Expr} {ma mb : Mx VD} {apos pos : Pos} (hK : C.K = X.K) (ha : PX X C E o ma) (hb : PX X C E e mb) (hs : starEach [e] X.env = [(false, eval e X.env)] := by rfl) (hbase : attributeBase o "join" X.env (eval o X.env) = eval o X.env := by rfl) (hline : (apos.endLine == pos.line) = true := by rfl) :
    PX X C E (.Call (.Attribute o "join" apos) [e] [] pos) (e_m1 f_join ma mb) := by
  obtain ⟨ta, pa, sa⟩ := ha
  obtain ⟨tb, pb, sb⟩ := hb
  have q := sem_m1 (C := C) (E := E) (r := fun x xs H Q => ∃ a p, ∃ ys : List Str, x = .str a ∧ xs = [.ref p] ∧ (SqL C.K H p (ys.map V.str) ∨ SqT C.K H p (ys.map V.str)) ∧ (ys.map (·.length)).sum + ys.length * a.length ≤ 16777216 ∧ Q (.str (Txt.join a ys)) H) p_join sa sb
  rw [hK] at q
  exact ⟨_, pe_join pa pb hs hbase hline, q⟩
end
end G

/-! sorted(set(s)), s a text -/
namespace G
open PySem PySem.Spec PyProof.Rows L2
section
variable {P : Program} {w : World} {A : Around} {E : Value → Shared → Prop} {s : Shared}
/-- a set of texts at a: its members l, in some order -/
def TS (P : Program) (w : World) (h : Heap) (a : Addr) (l : List Str) : Prop :=
  ∃ D : Froz.SD, h.get? a = some (Froz.sObj "set" D) ∧ Froz.TxOk P w D l ∧ l.Nodup ∧ (D.1.toList.map fun e => strOf e.2).Perm l ∧ Ris D.2.2.place.toList ∧ (w.params.followText "set-order" = true ∨ D.2.2.led = true)
theorem TS.at {h h' : Heap} {a : Addr} {l : List Str} (R : TS P w h a l) (k : ∀ o, h.get? a = some o → h'.get? a = some o) : TS P w h' a l := by
  obtain ⟨D, e, r⟩ := R
  exact ⟨D, k _ e, r⟩
theorem tailTx_ris {ep : Nat} {es : Array (Int × Value)} {t : SetTable} {d : Bool} (h : Ris t.place.toList) : Ris (Froz.tailTx ep es t d).2.2.place.toList := by
  unfold Froz.tailTx
  split
  · exact relayAll_ris _ _ _
  · exact h
theorem tailTx_led {ep : Nat} {es : Array (Int × Value)} {t : SetTable} {d : Bool} : (Froz.tailTx ep es t d).2.2.led = t.led := by
  unfold Froz.tailTx
  split
  · exact relayAll_led _ _ _
  · rfl
theorem addTx_ris {x : Int} {v : Value} {D : Froz.SD} (h : Ris D.2.2.place.toList) : Ris (Froz.addTx x v D).2.2.place.toList := by
  have h1 := layNew_ris D.2.2 D.1 x v h
  refine tailTx_ris ?_
  split
  · exact h1
  · exact h1
theorem addTx_led {x : Int} {v : Value} {D : Froz.SD} : (Froz.addTx x v D).2.2.led = D.2.2.led := by
  have h1 := layNew_led D.2.2 D.1 x v
  refine tailTx_led.trans ?_
  split
  · exact h1
  · exact h1
theorem addTx_pm {x : Int} {k : Str} {u : Tok} {D : Froz.SD} {l : List Str} (h : (D.1.toList.map fun e => strOf e.2).Perm l) : ((Froz.addTx x (.str k u) D).1.toList.map fun e => strOf e.2).Perm (k :: l) := by
  have h1 := layNew_perm D.2.2 D.1 x (.str k u)
  have h2 : ∀ (ep : Nat) (es : Array (Int × Value)) (t : SetTable) (d : Bool), (Froz.tailTx ep es t d).1.toList.Perm es.toList := fun ep es t d => by
    unfold Froz.tailTx
    split
    · exact relayAll_perm _ _ _
    · exact List.Perm.refl _
  have h0 : (Froz.addTx x (.str k u) D).1.toList.Perm (layNew D.2.2 D.1 x (.str k u)).1.toList := h2 _ _ _ _
  have h3 := (h0.trans h1).map fun e : Int × Value => strOf e.2
  rw [Array.toList_push, List.map_append] at h3
  refine h3.trans ?_
  exact (List.perm_append_comm).trans (List.Perm.cons k h)
/-- one text more -/
theorem TS.add {a : Addr} {l : List Str} {k : Str} {u : Tok} {Q : Bool → Shared → Prop} (R : TS P w s.heap a l) (hb : l.length + 1 < scanBound)
    (h : ∀ h' b, Heap.SameBut a s.heap h' → TS P w h' a (if k ∈ l then l else k :: l) → Q b { s with heap := h' }) : wpAny (model P w) A (setAddHashed a (.str k u) (hashStr w k)) Q E s := by
  obtain ⟨D, e, F, nd, pm, r1, r2⟩ := R
  by_cases hk : k ∈ l
  · have hd : (Froz.sObj "set" D).data = .set D.1 D.2.1 D.2.2 := rfl
    have hel := F.el
    have hsz : D.1.size < scanBound := by rw [F.sz]; omega
    have hkey := Froz.is_str (P := P) (w := w) k u
    have q := h s.heap false (Heap.SameBut.refl a s.heap) ⟨D, e, by rw [if_pos hk]; exact F, by rw [if_pos hk]; exact nd, by rw [if_pos hk]; exact pm, r1, r2⟩
    unfold setAddHashed setAddHashedIn
    refine wpAny_holding (wpAny_bind (wpAny_setState_of e hd F.fit ?_))
    dsimp only
    rw [byScan_of rfl hsz hel, if_pos rfl]
    unfold setAddByScan
    refine wpAny_bind (wpAny_bind (wpAny_rule (wpAny_bind (wpAny_setScan_of (knd := strKind P w) (k := k) hkey e hd F.fit hel ?_))))
    obtain ⟨y, hy, z⟩ := (F.mem k).mp hk
    cases c : List.findIdx? (fun e => (strKind P w).is k e.2) D.1.toList with
    | none =>
      have := List.findIdx?_eq_none_iff.mp c y hy
      rw [z] at this
      cases this
    | some j =>
      dsimp only
      exact wpAny_pure (wpAny_pure q)
  · refine Froz.add_x e F hk hb (h _ _ (Heap.SameBut.update s.heap a _) ?_)
    rw [if_neg hk]
    exact ⟨_, Froz.get_upd _ e rfl, Froz.add_ok u F, List.nodup_cons.mpr ⟨hk, nd⟩, addTx_pm pm, addTx_ris r1, r2.imp id fun z => by rw [addTx_led]; exact z⟩
/-- the rest of a text's signs -/
theorem ts_loop {I : Addr} {fp wr : List Addr} {Gq : Array GenState → Array GenState → Prop} {St : Nat → Shared → Prop} {R : Result → Shared → Prop} {x : Str} (Wk : WalksS P w A.in1 I fp wr Gq x.cps.size (SignAt x) St) (a : Addr) (hf : a ∉ fp) (hb : x.cps.size + 1 < scanBound) :
    ∀ (m i : Nat) (l : List Str) (s : Shared), x.cps.size - i = m → i ≤ x.cps.size → St i s → TS P w s.heap a l → l.length ≤ i → (∀ k, k ∈ l ↔ ∃ j c, j < i ∧ x.cps[j]? = some c ∧ k = ⟨#[c]⟩) →
      (∀ s' l, Moved (a :: wr) Gq s s' → TS P w s'.heap a l → l.length ≤ x.cps.size → (∀ k, k ∈ l ↔ ∃ c ∈ x.cps.toList, k = ⟨#[c]⟩) → R (.ok (.ret .none)) s') →
      codeAny (model P w) A (.builtin "set.update.loop" ⟨[.ref a, .ref I], []⟩) R s := by
  have hw : a ∉ wr := fun z => hf (Wk.sub _ z)
  have sub : ∀ b ∈ wr, b ∈ a :: wr := fun b z => List.mem_cons_of_mem _ z
  intro m
  induction m with
  | zero =>
    intro i l s hm hi st R0 hl hk fin
    refine codeAny_builtin F.entry_set_update_loop ?_
    rw [Around.under_plainId F.plain_set_update_loop _]
    show wpAny _ _ (pyNext (.ref I) >>= _) _ _ _
    have hi' : i = x.cps.size := by omega
    subst hi'
    refine wpAny_bind (Wk.done s _ _ st fun s1 mv => wpAny_pure ?_)
    refine fin s1 l (mv.mono sub) (R0.at fun o e => mv.heap a o hw e) hl fun k => (hk k).trans ⟨?_, ?_⟩
    · rintro ⟨j, c, _, h2, h3⟩
      exact ⟨c, by rw [← Array.getElem?_toList] at h2; exact List.mem_of_getElem? h2, h3⟩
    · rintro ⟨c, h1, h2⟩
      obtain ⟨j, hj, e⟩ := List.getElem_of_mem h1
      exact ⟨j, c, by simpa using hj, by rw [← Array.getElem?_toList, List.getElem?_eq_getElem hj, e], h2⟩
  | succ m ih =>
    intro i l s hm hi st R0 hl hk fin
    refine codeAny_builtin F.entry_set_update_loop ?_
    rw [Around.under_plainId F.plain_set_update_loop _]
    show wpAny _ _ (pyNext (.ref I) >>= _) _ _ _
    refine wpAny_bind (Wk.item i s _ _ (by omega) st fun v s1 hv st1 mv => ?_)
    obtain ⟨c, u, hc, rfl⟩ := hv
    have R1 : TS P w s1.heap a l := R0.at fun o e => mv.heap a o hw e
    refine wpAny_bind (wpAny_holding ?_)
    unfold setAdd
    refine wpAny_holding (wpAny_bind ((strKind P w).pyHash (k := ⟨#[c]⟩) (Froz.is_str _ _) ?_))
    refine TS.add (s := { s1 with toks := s1.toks + 1 }) R1 (by omega) fun h' b sb R2 => wpAny_pure ⟨plainId_quiet F.plain_set_update_loop _, ?_⟩
    have nl : (if (⟨#[c]⟩ : Str) ∈ l then l else ⟨#[c]⟩ :: l).length ≤ i + 1 := by
      split
      · omega
      · rw [List.length_cons]; omega
    refine ih (i + 1) _ _ (by omega) (by omega) (Wk.frame _ s1 _ _ st1 (Nat.le_succ _) fun b hb o e => (sb.2 b fun z => hf (z ▸ hb)).trans e) R2 nl (fun k => ?_) fun s2 l2 mv2 R3 hl2 hk2 => fin s2 l2 (Moved.trans Wk.gtrans ((mv.mono sub).then_heap (Nat.le_succ _) fun b o hb e => (sb.2 b fun z => hb (z ▸ List.mem_cons_self)).trans e) mv2) R3 hl2 hk2
    have base : k ∈ (if (⟨#[c]⟩ : Str) ∈ l then l else ⟨#[c]⟩ :: l) ↔ k ∈ l ∨ k = ⟨#[c]⟩ := by
      split
      · rename_i z
        exact ⟨.inl, fun q => q.elim id fun q => q ▸ z⟩
      · rw [List.mem_cons]
        exact Or.comm
    rw [base, hk k]
    constructor
    · rintro (⟨j, c', h1, h2, h3⟩ | h)
      · exact ⟨j, c', by omega, h2, h3⟩
      · exact ⟨i, c, by omega, hc, h⟩
    · rintro ⟨j, c', h1, h2, h3⟩
      by_cases hj : j = i
      · subst hj
        rw [hc] at h2
        cases h2
        exact .inr h3
      · exact .inl ⟨j, c', by omega, h2, h3⟩
abbrev eset (w : World) : Obj := Froz.sObj "set" (#[], 0, SetTable.fresh 0 0 (!w.params.followText "set-order"))
theorem ts_fresh {h : Heap} {a : Addr} (e : h.get? a = some (eset w)) : TS P w h a [] :=
  ⟨_, e, Froz.TxOk.nil rfl, List.nodup_nil, List.Perm.refl _, List.Pairwise.nil, by
    show _ ∨ (!w.params.followText "set-order") = true
    cases w.params.followText "set-order"
    · exact .inr rfl
    · exact .inl rfl⟩
/-- set(x) -/
theorem call_set_txt {x : Str} {u : Tok} {Q : Value → Shared → Prop} (hh : A.handled = none) (hb : x.cps.size + 1 < scanBound)
    (h : ∀ (h' : Heap) (tk : Nat) (l : List Str), TS P w h' s.heap.objs.size l → l.length ≤ x.cps.size → (∀ k, k ∈ l ↔ ∃ c ∈ x.cps.toList, k = ⟨#[c]⟩) → (∀ b o, s.heap.get? b = some o → h'.get? b = some o) → Q (.ref s.heap.objs.size) { s with heap := h', toks := tk }) :
    wpAny (model P w) A (call (.type "set") [.str x u]) Q E s := by
  obtain ⟨c, tl, hmro⟩ := F.called_set.mro
  have hmade := F.called_set.made
  have hsub := F.called_set.sub
  refine wpAny_call (codeAny_of_tree (by
    show wpAny _ _ (callAny (.type "set") _) _ _ _
    refine wpAny_pure ⟨Code.quiet_builtin _ (by decide +kernel), codeAny_builtin F.entry_type_call ?_⟩
    rw [Around.under_plain (weight_type_call_type "set" [.str x u] []) rfl]
    have h1 := F.called_set.notType
    have h2 := F.called_set.canCreate
    have hct := F.typeCall_set_1 (.str x u)
    repeat (any_goals (first | assumption | wp_step))
    refine codeAny_mono (code_set_led1 (.str x u) (E := E) (Q₁ := fun ob s1 => ob = .ref s.heap.objs.size ∧ s1 = { s with heap := s.heap.push (eset w) }) ⟨rfl, rfl⟩) fun r s1 hr => ?_
    cases r with
    | error e => exact hr
    | ok fl =>
      cases fl with
      | ret ob =>
        obtain ⟨rfl, rfl⟩ := hr
        have hS : (s.heap.push (eset w)).get? s.heap.objs.size = some (eset w) := Heap.get?_push_size _ rfl
        have hT : Shared.TypeIs { s with heap := s.heap.push (eset w) } (.ref s.heap.objs.size) "set" := ⟨_, hS, rfl⟩
        have hli := F.called_set.init.lookup
        have hbi := F.called_set.init.bind (.ref s.heap.objs.size)
        repeat (any_goals (first | assumption | wp_step))
        refine codeAny_mono (codeAny_call_builtin (R := wants (fun r s2 => r = .none ∧ ∃ h' tk l, s2 = { s with heap := h', toks := tk } ∧ TS P w h' s.heap.objs.size l ∧ l.length ≤ x.cps.size ∧ (∀ k, k ∈ l ↔ ∃ c ∈ x.cps.toList, k = ⟨#[c]⟩) ∧ (∀ b o, s.heap.get? b = some o → h'.get? b = some o)) E) F.called_set.init.plain F.entry_set_init (check_set_init_1 hT ?_)) fun r2 s2 hr2 => ?_
        · have i1 := F.sub_str_set
          have i2 := F.sub_str_frozenset
          have i3 : (Value.type "str" == Value.type "dict") = false := by decide
          unfold Builtin.«set.__init__» noKeywords Builtin.Frozenset.updateFrom
          generalize hPI : pyIter = PI
          wp_walk
          subst hPI
          refine wpAny_pyIter_str fun o St Wk st0 => wpAny_bind (wpAny_runValue ?_)
          have hsz : (s.heap.push (eset w)).objs.size = s.heap.objs.size + 1 := Heap.size_push ..
          have hh3 : A.in1.in1.in1.handled = none := by simp [hh]
          refine ts_loop (Wk _ hh3).toS s.heap.objs.size (by rw [hsz]; simp) hb (x.cps.size - 0) 0 [] _ (by omega) (Nat.zero_le _) st0 (ts_fresh (Heap.get?_push_of_some _ hS)) (Nat.zero_le _) (fun k => by simp) fun s' l mv R hl hk => ?_
          obtain ⟨h', g2, d', tk', os'⟩ := s'
          obtain rfl : g2 = s.gens := mv.gens
          obtain rfl : d' = s.drawn := mv.drawn
          obtain rfl : os' = s.os := mv.os
          show wpAny _ _ _ _ _ _
          refine wpAny_pure ?_
          show wpAny _ _ (ret Value.none) _ _ _
          refine wpAny_pure ⟨rfl, h', tk', l, rfl, R, hl, hk, fun b o e => ?_⟩
          have hb0 : b < s.heap.objs.size := Heap.lt_size e
          exact mv.heap b o (by rw [hsz]; simp; exact ⟨Nat.ne_of_lt hb0, Nat.ne_of_lt (Nat.lt_succ_of_lt hb0)⟩) (Heap.get?_push_of_some _ (Heap.get?_push_of_some _ e))
        · cases r2 with
          | error e => exact hr2
          | ok fl2 =>
            cases fl2 with
            | ret r =>
              obtain ⟨rfl, h', tk, l, rfl, q1, q2, q3, q4⟩ := hr2
              repeat (any_goals (first | assumption | wp_step))
              exact h _ _ _ q1 q2 q3 q4
            | _ => exact hr2.elim
      | _ => exact hr.elim))
/-- sorted(set) -/
theorem sorted_ts {a : Addr} {l : List Str} {Q : Value → Shared → Prop} (R : TS P w s.heap a l) (hh : A.handled = none) (h64 : l.length < 64)
    (hQ : ∀ s' p (out : Array Value) (c : Nat) (ss : List Str), (∀ b o, s.heap.get? b = some o → s'.heap.get? b = some o) → s'.gens = s.gens → s'.os = s.os → s.heap.objs.size ≤ p →
      s'.heap.get? p = some (seqObj "list" out c) → StrsAre out.toList ss → ss.Perm l → ss.Nodup → sortedS ss = true → Q (.ref p) s') : wpAny (model P w) A (call (.builtin "sorted") [.ref a]) Q E s := by
  obtain ⟨D, e, F, nd, pm, r1, r2⟩ := R
  have hd : D.1.size < scanBound := by
    have : D.1.size = l.length := F.sz
    have h2 : 64 ≤ scanBound := by decide
    omega
  refine Calls.call_function_entry kind_sorted plain_sorted entry_sorted (args_sorted1 _) (by
    unfold Builtin.«sorted»
    refine wpAny_bind (m := checkCount "sorted" 1 1 _) (wpAny_pure (wpAny_bind (collect_set (A := A.in1) hh ⟨_, e, rfl, rfl⟩ F.fit hd r1 r2 fun s1 vs k1 hz g1 o1 pv => ?_)))
    have hv : ∀ v, v ∈ vs → ∃ x t, v = .str x t := fun v hm => by
      obtain ⟨y, hy, q⟩ := List.mem_map.mp (pv.mem_iff.mp hm)
      obtain ⟨⟨k, hk, _⟩, _⟩ := F.el y hy
      obtain ⟨t, z⟩ := Value.isStrOf_shape hk
      exact ⟨k, t, by rw [← q, z]⟩
    have hS := strsAre_map vs hv
    have ps : (vs.map strOf).Perm l := by
      have q := pv.map strOf
      rw [List.map_map] at q
      exact q.trans pm
    have hl : vs.length = l.length := by rw [← ps.length_eq, List.length_map]
    refine wpAny_bind (wpAny_newList ?_ (by rw [hl, sizeLine_eq]; omega))
    have hoL : (s1.heap.push (seqObj "list" vs.toArray 0)).get? s1.heap.objs.size = some (seqObj "list" vs.toArray 0) := Heap.get?_push_size _ rfl
    refine wpAny_bind (wpAny_holding (wpAny_call_entry slot_list_sort ⟨_, hoL, rfl⟩ entry_list_sort (list_sort_treeK strKind_oneLt hoL hS.keysOf (fun a b r z => keyKind_strs (by rw [← z]; exact hS)) (by omega) fun st hp hs => ⟨_, rfl, ?_⟩) (args_list_sort _)))
    obtain ⟨ss, q1, q2, q3⟩ := sorted_out_str hS hp hs
    obtain ⟨c, hc⟩ := sortedHeap_at (vs := vs) (out := (arrOf st).map (·.2)) hoL
    refine wpAny_pure ⟨_, rfl, hQ _ s1.heap.objs.size _ c ss (fun b u z => ?_) g1 o1 hz hc q1 (q2.trans ps) ((q2.trans ps).nodup_iff.mpr nd) q3⟩
    have z1 := k1 b u z
    have lt := Heap.lt_size z1
    show (sortedHeap (s1.heap.push (seqObj "list" vs.toArray 0)) s1.heap.objs.size vs _).get? b = some u
    rw [sortedHeap_old (Nat.ne_of_lt lt) (by rw [size_push']; exact Nat.lt_succ_of_lt lt)]
    exact Heap.get?_push_of_some _ z1)
end
/-! the signs, each once, rising -/
def insU (c : Nat) : List Nat → List Nat
  | [] => [c]
  | d :: r => if c < d then c :: d :: r else if c = d then d :: r else d :: insU c r
def sortU : List Nat → List Nat
  | [] => []
  | c :: r => insU c (sortU r)
theorem mem_insU {c x : Nat} : ∀ {l : List Nat}, x ∈ insU c l ↔ x = c ∨ x ∈ l
  | [] => by simp [insU]
  | d :: r => by
    unfold insU
    split
    · simp
    · split
      · rename_i h
        subst h
        simp
      · simp [mem_insU (l := r)]
        constructor
        · rintro (h | h | h)
          · exact .inr (.inl h)
          · exact .inl h
          · exact .inr (.inr h)
        · rintro (h | h | h)
          · exact .inr (.inl h)
          · exact .inl h
          · exact .inr (.inr h)
theorem mem_sortU {x : Nat} : ∀ {l : List Nat}, x ∈ sortU l ↔ x ∈ l
  | [] => Iff.rfl
  | c :: r => by rw [sortU, mem_insU, mem_sortU, List.mem_cons]
theorem insU_lt {c : Nat} : ∀ {l : List Nat}, l.Pairwise (· < ·) → (insU c l).Pairwise (· < ·)
  | [], _ => List.pairwise_singleton _ _
  | d :: r, h => by
    obtain ⟨h1, h2⟩ := List.pairwise_cons.mp h
    unfold insU
    split
    · rename_i z
      refine List.pairwise_cons.mpr ⟨fun y hy => ?_, h⟩
      rcases List.mem_cons.mp hy with rfl | hy
      · exact z
      · exact Nat.lt_trans z (h1 y hy)
    · split
      · exact h
      · refine List.pairwise_cons.mpr ⟨fun y hy => ?_, insU_lt h2⟩
        rcases mem_insU.mp hy with rfl | hy
        · omega
        · exact h1 y hy
theorem sortU_lt : ∀ l : List Nat, (sortU l).Pairwise (· < ·)
  | [] => List.Pairwise.nil
  | c :: r => insU_lt (sortU_lt r)
/-- two rising lists of the same members are one -/
theorem rise_eq : ∀ {a b : List Nat}, a.Pairwise (· < ·) → b.Pairwise (· < ·) → (∀ x, x ∈ a ↔ x ∈ b) → a = b
  | [], [], _, _, _ => rfl
  | [], y :: b, _, _, h => by simpa using (h y).mpr List.mem_cons_self
  | x :: a, [], _, _, h => by simpa using (h x).mp List.mem_cons_self
  | x :: a, y :: b, ha, hb, h => by
    obtain ⟨a1, a2⟩ := List.pairwise_cons.mp ha
    obtain ⟨b1, b2⟩ := List.pairwise_cons.mp hb
    have e : x = y := by
      rcases List.mem_cons.mp ((h x).mp List.mem_cons_self) with e | e
      · exact e
      · rcases List.mem_cons.mp ((h y).mpr List.mem_cons_self) with e2 | e2
        · exact e2.symm
        · have := b1 x e
          have := a1 y e2
          omega
    subst e
    rw [rise_eq a2 b2 fun z => ?_]
    constructor
    · intro hz
      rcases List.mem_cons.mp ((h z).mp (List.mem_cons_of_mem _ hz)) with e | e
      · have := a1 z hz
        omega
      · exact e
    · intro hz
      rcases List.mem_cons.mp ((h z).mpr (List.mem_cons_of_mem _ hz)) with e | e
      · have := b1 z hz
        omega
      · exact e
theorem sortU_self {l : List Nat} (h : l.Pairwise (· < ·)) : sortU l = l := rise_eq (sortU_lt l) h fun _ => mem_sortU
def sgn (c : Nat) : Str := ⟨#[c]⟩
theorem rise_of : ∀ (t : List Nat) (p : Nat), risingS (sgn p) (t.map sgn) = true → (p :: t).Nodup → (p :: t).Pairwise (· < ·)
  | [], p, _, _ => List.pairwise_singleton _ _
  | x :: r, p, h, nd => by
    have h' : (!ltCps [x] [p] && risingS (sgn x) (r.map sgn)) = true := h
    rw [Bool.and_eq_true] at h'
    obtain ⟨h1, h2⟩ := h'
    obtain ⟨n1, n2⟩ := List.nodup_cons.mp nd
    have ih := rise_of r x h2 n2
    have hxp : ¬ x < p := fun z => by
      rw [ltCps_eq, decide_eq_true (show ([x] : List Nat) < [p] from List.Lex.rel z)] at h1
      cases h1
    have hp : p < x := by
      have : p ≠ x := fun z => n1 (z ▸ List.mem_cons_self)
      omega
    refine List.pairwise_cons.mpr ⟨fun y hy => ?_, ih⟩
    rcases List.mem_cons.mp hy with rfl | hy
    · exact hp
    · exact Nat.lt_trans hp ((List.pairwise_cons.mp ih).1 y hy)
theorem sgn_list : ∀ {ys : List Str}, (∀ k ∈ ys, ∃ c, k = sgn c) → ∃ t : List Nat, ys = t.map sgn
  | [], _ => ⟨[], rfl⟩
  | y :: ys, h => by
    obtain ⟨c, rfl⟩ := h y List.mem_cons_self
    obtain ⟨t, rfl⟩ := sgn_list fun k hk => h k (List.mem_cons_of_mem _ hk)
    exact ⟨c :: t, rfl⟩
theorem sgn_mem {t : List Nat} {c : Nat} : sgn c ∈ t.map sgn ↔ c ∈ t := by
  rw [List.mem_map]
  constructor
  · rintro ⟨d, hd, e⟩
    have : [d] = [c] := congrArg (fun z : Str => z.cps.toList) e
    cases this
    exact hd
  · exact fun h => ⟨c, h, rfl⟩
theorem sgn_nodup : ∀ {t : List Nat}, (t.map sgn).Nodup → t.Nodup
  | [], _ => List.nodup_nil
  | c :: t, h => by
    obtain ⟨h1, h2⟩ := List.nodup_cons.mp h
    exact List.nodup_cons.mpr ⟨fun z => h1 (sgn_mem.mpr z), sgn_nodup h2⟩
theorem srt_is {s : List Nat} {ys : List Str} (hm : ∀ k, k ∈ ys ↔ ∃ c ∈ s, k = ⟨#[c]⟩) (nd : ys.Nodup) (hs : sortedS ys = true) : ys = (sortU s).map sgn := by
  obtain ⟨t, rfl⟩ := sgn_list (ys := ys) fun k hk => by
    obtain ⟨c, _, e⟩ := (hm k).mp hk
    exact ⟨c, e⟩
  have hr : t.Pairwise (· < ·) := by
    cases t with
    | nil => exact List.Pairwise.nil
    | cons p r => exact rise_of r p hs (sgn_nodup nd)
  rw [rise_eq hr (sortU_lt s) fun x => ?_]
  rw [mem_sortU, ← sgn_mem, hm]
  constructor
  · rintro ⟨c, h1, h2⟩
    have : [x] = [c] := congrArg (fun z : Str => z.cps.toList) h2
    cases this
    exact h1
  · exact fun h => ⟨x, h, rfl⟩
end G

namespace G
open PySem PySem.Spec PyProof.Rows L2
section
variable {P : Program} {w : World} {K : PySem.W.Frag} {mg : Str → Option Value} {base : Heap} {C : Cf}
theorem callee_mk {x qual : Str} {st : Stmt} {f : Addr} {fd : FuncData} {ps : List Str} {j n : Nat} {m} (F : Fun K x qual st f fd) (h : FnOk P w K mg base CX0 j f fd ps (spD C n m)) (hm : mg x = some (.ref f)) (b : Binds K fd ps []) : Callee P w K mg base CX0 C x j n m :=
  ⟨f, fd, ps, h, hm, F.kp, b⟩
theorem fn_fail {k n : Nat} {f : Addr} {fd : FuncData} {ps : List Str} (hn : ps.length = n) : FnOk P w K mg base CX0 k f fd ps (spD C n fun _ _ => .fail) :=
  ⟨fun vs H Q E h => by rw [spD_len vs H Q E h, hn], fun A outer s H args us vs Q E _ _ _ _ h => by
    obtain ⟨W, M, ds, _, _, _, p⟩ := h
    exact p.elim⟩
theorem Callee.mono {x : Str} {j j' n : Nat} {m} (h : Callee P w K mg base CX0 C x j n m) (hj : j ≤ j') : Callee P w K mg base CX0 C x j' n m := by
  obtain ⟨f, fd, ps, F, a, b, c⟩ := h.ex
  exact ⟨f, fd, ps, F.mono hj, a, b, c⟩
/-- the law -/
def spLaw (K : PySem.W.Frag) : Sp := fun vs H Q _ => ∃ (a : Addr) (ns : List Int), vs = [.ref a] ∧ SqL K H a (ns.map V.int) ∧ ns.length ≤ 63 ∧ ∀ H', Q (.bl true) H'
theorem law_imp {k : Nat} {f : Addr} {fd : FuncData} {ps : List Str} {m : List VD → Mem → Res VD} (hK : C.K = K) (F : FnOk P w K mg base CX0 k f fd ps (spD C 1 m)) (h : ∀ ns : List Int, ns.length ≤ 63 → ∃ M, m [.d (.scr ns)] [] = .ok (.d (.bl true)) M) (hT : C.tb = [] := by rfl) (hl' : ∀ b, C.low b = none := by intro _; rfl) : FnOk P w K mg base CX0 k f fd ps (spLaw K) :=
  F.imp fun vs H Q E ⟨a, ns, e, hS, hl, q⟩ => by
    subst e
    obtain ⟨M, e⟩ := h ns hl
    refine ⟨⟨H, []⟩, [], [.d (.scr ns)], ⟨Same.refl _, .nil, rfl, (fun i a m h _ => by cases h), (by rw [hT]; exact fun p hp => by cases hp), (by rw [hT]; exact fun p hp => by cases hp), (fun b o e => by rw [hl'] at e; cases e)⟩, .cons (Rep.scr (by rw [hK]; exact hS)) .nil, rfl, ?_⟩
    rw [e]
    intro W' H' x _ _ r
    cases inv_bl r
    exact q H'
end
section
variable {X : Cx} {C : Cf} {E : XK} {CX : CXT} {k : Nat}
theorem boot_len : bootBuiltins "len" = some (.builtin "len") := by decide +kernel
theorem xb_len {e : Expr} {es : List Expr} {ms : Mx (List VD)} {p pos : Pos} (c : Cxx X C E CX k) (hm : X.mg "len" = none) (ha : PXA X C E (e :: es) ms) (hg : Gl X "len" := by rfl) (he : starEach (e :: es) X.env = (false, eval e X.env) :: starEach es X.env := by rfl) (hpl : (backTo pos (starEach es X.env)).any (·.1) = false := by rfl) : PX X C E (.Call (.Name "len" p) (e :: es) [] pos) (e_bi f_len ms) :=
  x_bi call_len (by rw [← c.K]; exact p_len) hm boot_len ha hg (by decide) (by decide) he hpl
theorem boot_all : bootBuiltins "all" = some (.builtin "all") := by decide +kernel
theorem xb_all {e : Expr} {es : List Expr} {ms : Mx (List VD)} {p pos : Pos} (c : Cxx X C E CX k) (hm : X.mg "all" = none) (ha : PXA X C E (e :: es) ms) (hg : Gl X "all" := by rfl) (he : starEach (e :: es) X.env = (false, eval e X.env) :: starEach es X.env := by rfl) (hpl : (backTo pos (starEach es X.env)).any (·.1) = false := by rfl) : PX X C E (.Call (.Name "all" p) (e :: es) [] pos) (e_bi (f_bls fun bs => bs.all id) ms) :=
  x_bi (cr_all c.calm) (by rw [← c.K]; exact p_all) hm boot_all ha hg (by decide) (by decide) he hpl
theorem boot_any : bootBuiltins "any" = some (.builtin "any") := by decide +kernel
theorem xb_any {e : Expr} {es : List Expr} {ms : Mx (List VD)} {p pos : Pos} (c : Cxx X C E CX k) (hm : X.mg "any" = none) (ha : PXA X C E (e :: es) ms) (hg : Gl X "any" := by rfl) (he : starEach (e :: es) X.env = (false, eval e X.env) :: starEach es X.env := by rfl) (hpl : (backTo pos (starEach es X.env)).any (·.1) = false := by rfl) : PX X C E (.Call (.Name "any" p) (e :: es) [] pos) (e_bi (f_bls fun bs => bs.any id) ms) :=
  x_bi (cr_any c.calm) (by rw [← c.K]; exact p_any) hm boot_any ha hg (by decide) (by decide) he hpl
theorem boot_sum : bootBuiltins "sum" = some (.builtin "sum") := by decide +kernel
theorem xb_sum {e : Expr} {es : List Expr} {ms : Mx (List VD)} {p pos : Pos} (c : Cxx X C E CX k) (hm : X.mg "sum" = none) (ha : PXA X C E (e :: es) ms) (hg : Gl X "sum" := by rfl) (he : starEach (e :: es) X.env = (false, eval e X.env) :: starEach es X.env := by rfl) (hpl : (backTo pos (starEach es X.env)).any (·.1) = false := by rfl) : PX X C E (.Call (.Name "sum" p) (e :: es) [] pos) (e_bi f_sum ms) :=
  x_bi (cr_sum c.calm) (by rw [← c.K]; exact p_sum) hm boot_sum ha hg (by decide) (by decide) he hpl
theorem boot_abs : bootBuiltins "abs" = some (.builtin "abs") := by decide +kernel
theorem xb_abs {e : Expr} {es : List Expr} {ms : Mx (List VD)} {p pos : Pos} (c : Cxx X C E CX k) (hm : X.mg "abs" = none) (ha : PXA X C E (e :: es) ms) (hg : Gl X "abs" := by rfl) (he : starEach (e :: es) X.env = (false, eval e X.env) :: starEach es X.env := by rfl) (hpl : (backTo pos (starEach es X.env)).any (·.1) = false := by rfl) : PX X C E (.Call (.Name "abs" p) (e :: es) [] pos) (e_bi f_abs ms) :=
  x_bi call_abs p_abs hm boot_abs ha hg (by decide) (by decide) he hpl
theorem boot_int : bootBuiltins "int" = some (.type "int") := by decide +kernel
theorem xb_int {e : Expr} {es : List Expr} {ms : Mx (List VD)} {p pos : Pos} (c : Cxx X C E CX k) (hm : X.mg "int" = none) (ha : PXA X C E (e :: es) ms) (hg : Gl X "int" := by rfl) (he : starEach (e :: es) X.env = (false, eval e X.env) :: starEach es X.env := by rfl) (hpl : (backTo pos (starEach es X.env)).any (·.1) = false := by rfl) : PX X C E (.Call (.Name "int" p) (e :: es) [] pos) (e_bi f_int ms) :=
  x_ty call_int1 p_int hm boot_int ha hg (by decide) (by decide) he hpl
theorem boot_list : bootBuiltins "list" = some (.type "list") := by decide +kernel
theorem xb_list {e : Expr} {es : List Expr} {ms : Mx (List VD)} {p pos : Pos} (c : Cxx X C E CX k) (hm : X.mg "list" = none) (ha : PXA X C E (e :: es) ms) (hg : Gl X "list" := by rfl) (he : starEach (e :: es) X.env = (false, eval e X.env) :: starEach es X.env := by rfl) (hpl : (backTo pos (starEach es X.env)).any (·.1) = false := by rfl) : PX X C E (.Call (.Name "list" p) (e :: es) [] pos) (e_bi f_list ms) :=
  x_ty (call_list_all c.calm) (by rw [← c.K]; exact p_list) hm boot_list ha hg (by decide) (by decide) he hpl
theorem x_callR {j n : Nat} {m} {x : Str} {e : Expr} {es : List Expr} {ms : Mx (List VD)} {p pos : Pos} (c : Cxx X C E CX k) (F : Callee X.prog X.w X.K X.mg X.base CX C x j n m) (ha : PXA X C E (e :: es) ms) (hj : j ≤ k := by omega) (hg : Gl X x := by rfl)
    (hdb : (x == ("__debug__" : Str)) = false := by decide) (he : starEach (e :: es) X.env = (false, eval e X.env) :: starEach es X.env := by rfl) (hpl : (backTo pos (starEach es X.env)).any (·.1) = false := by rfl) :
    PX X C E (.Call (.Name x p) (e :: es) [] pos) (e_call n m ms) := x_call c F ha hj hg hdb he hpl
end
end G

namespace G
open PySem PySem.Spec PyProof.Rows L2
section
variable {X : Cx} {C : Cf} {E : XK} {CX : CXT} {k : Nat}
def TSO (P : Program) (w : World) (a : Addr) (l : List Str) : HO := .ext fun h => TS P w h a l
theorem tso_new {P : Program} {w : World} {H : Hp} {h : Heap} {a : Addr} {l : List Str} (R : TS P w h a l) : ObjOk P w H h a (TSO P w a l) := by
  have ⟨_, ho, _⟩ := R
  exact ⟨R, ⟨_, ho⟩, fun h1 h2 p k => TS.at p k⟩
theorem tso_get {pins : List (Addr × Obj)} {σ : L2.St} {H : Hp} {s : Shared} {a : Addr} {l : List Str} (I : Inv X pins σ H s) (ha : H a = some (TSO X.prog X.w a l)) : TS X.prog X.w s.heap a l := (I.hok a _ ha).1
def rSetTx (P : Program) (w : World) : List V → Hp → VK → Prop := fun xs H Q => ∃ s : List Nat, xs = [.str (enc s)] ∧ s.length < 63 ∧ ∀ p l, H p = none → l.length ≤ s.length → (∀ k, k ∈ l ↔ ∃ c ∈ s, k = ⟨#[c]⟩) → Q (.ref p) (upd H p (TSO P w p l))
theorem cr_setTx (hc : X.calm = true) : CallR X (.type "set") (rSetTx X.prog X.w) := by
  intro pins s σ H xs us Q I r h
  obtain ⟨z, rfl, hz, q⟩ := h
  obtain ⟨u, rfl, t, rfl⟩ := vals1 r
  have e1 : (enc z).cps.size = z.length := by simp [enc]
  have e2 : (enc z).cps.toList = z := by simp [enc]
  have hn : H s.heap.objs.size = none := I.hok.fresh (Nat.le_refl _)
  refine call_set_txt (P := X.prog) (w := X.w) (I.ok.hd hc) (by
    have h2 : 64 ≤ scanBound := by decide
    omega) fun h' tk l R hl hm k => ?_
  rw [e1] at hl
  rw [e2] at hm
  exact ⟨.ref s.heap.objs.size, _, I.laid (t' := tk) k (Nat.le_refl _) (tso_new R), rfl, q _ l hn hl hm⟩
theorem vals_sgn : ∀ {t : List Nat} {vs : List Value}, StrsAre vs (t.map sgn) → Vals (t.map fun c => V.str ⟨#[c]⟩) vs
  | [], _, .nil => .nil
  | c :: t, _, .cons _ u h => .cons ⟨u, rfl⟩ (vals_sgn h)
def rSortTx (P : Program) (w : World) : List V → Hp → VK → Prop := fun xs H Q => ∃ (a : Addr) (l : List Str) (s : List Nat), xs = [.ref a] ∧ H a = some (TSO P w a l) ∧ l.length < 63 ∧ (∀ k, k ∈ l ↔ ∃ c ∈ s, k = ⟨#[c]⟩) ∧ ∀ p, H p = none → Q (.ref p) (upd H p (.lst ((sortU s).map fun c => V.str ⟨#[c]⟩)))
theorem cr_sortTx (hc : X.calm = true) : CallR X (.builtin "sorted") (rSortTx X.prog X.w) := by
  intro pins s σ H xs us Q I r h
  obtain ⟨a, l, z, rfl, ha, hl, hm, q⟩ := h
  rw [Vals.ref1 r]
  refine sorted_ts (tso_get I ha) (I.ok.hd hc) (by omega) fun s' p out c ss k g o hp hg hS pm nd hs => ?_
  have e : ss = (sortU z).map sgn := srt_is (fun k => (pm.mem_iff).trans (hm k)) nd hs
  subst e
  have hlen : ((sortU z).map fun c => V.str ⟨#[c]⟩).length ≤ sizeLine := by
    have := pm.length_eq
    rw [List.length_map] at this ⊢
    rw [sizeLine_eq]
    omega
  have hn : H p = none := I.hok.fresh hp
  have J : Inv X pins σ (upd H p (.lst ((sortU z).map fun c => V.str ⟨#[c]⟩))) { s with heap := s'.heap, gens := s'.gens, drawn := s'.drawn, toks := s'.toks } :=
    I.call (ch := []) (Un.laid k hp hn) (I.hok.laid k hp ⟨hlen, out.toList, c, vals_sgn hS, hg⟩) (by rw [g]; exact I.bare) (fun _ z => nomatch z)
  have e : s' = { s with heap := s'.heap, gens := s'.gens, drawn := s'.drawn, toks := s'.toks } := by
    cases s'
    cases s
    cases o
    rfl
  rw [e]
  exact ⟨.ref p, _, J, rfl, q p hn⟩
/-- sorted(set(text)) -/
def f_srt : List VD → Mem → Res VD
  | [.d (.str s)], M => if s.length < 63 then .ok (.d (.lst ((sortU s).map fun c => .str [c]))) M else .fail
  | _, _ => .fail
theorem boot_sorted : bootBuiltins "sorted" = some (.builtin "sorted") := by decide +kernel
theorem boot_set : bootBuiltins "set" = some (.type "set") := by decide +kernel
theorem xb_srt {e : Expr} {m : Mx VD} {p p2 q pos : Pos} (c : Cxx X C E CX k) (hm : X.mg "sorted" = none) (hm2 : X.mg "set" = none) (ha : PX X C E e m) (hg : Gl X "sorted" := by rfl) (hg2 : Gl X "set" := by rfl)
    (he : starEach [e] X.env = [(false, eval e X.env)] := by rfl) (he2 : starEach [.Call (.Name "set" p2) [e] [] q] X.env = [(false, eval (.Call (.Name "set" p2) [e] [] q) X.env)] := by rfl) : PX X C E (.Call (.Name "sorted" p) [.Call (.Name "set" p2) [e] [] q] [] pos) (e_bi f_srt (a_cons m a_nil)) := by
  obtain ⟨ta, pa, sa⟩ := xa_cons ha xa_nil he
  refine ⟨_, pe_callB (cr_sortTx c.calm) hg hm boot_sorted (pa_cons (pe_callTy (cr_setTx c.calm) hg2 hm2 boot_set pa (by decide) (by decide) he) pa_nil he2) (by decide) (by decide) he2 , fun W σ H ρ M Q ok sl p => ?_⟩
  refine sa W σ H ρ M _ ok sl (post_bind p fun vs M1 W1 H1 x l1 ok1 ra p1 => ?_)
  unfold f_srt at p1
  split at p1
  · obtain ⟨y, rfl, r⟩ := ra.one
    cases inv_str r
    split at p1
    · rename_i s hs
      refine ⟨_, rfl, hs, fun a l ha hl hm => ⟨a, l, _, rfl, upd_same, by omega, hm, fun b hb => ?_⟩⟩
      have ok2 : Ok C W1 (upd H1 a (TSO X.prog X.w a l)) M1 := ok1.grow (same_upd ha)
      obtain ⟨ok3, l3⟩ := ok2.new (o := .lst ((sortU s).map fun c => V.str ⟨#[c]⟩)) hb
      exact p1 _ _ _ ((Step.grow ha).trans (Step.new ok2 hb)) ok3 (Rep.lst (by show upd W1.B b _ b = _; rw [upd_same]) (repA_chars _))
    · exact p1.elim
  · exact p1.elim
/-! s[::-1] -/
def tRevT (te : TE) : TE := fun σ H Q => te σ H fun x H1 => ∃ s : List Nat, x = .str (enc s) ∧ s.length ≤ sizeLine ∧ Q (.str (enc s.reverse)) H1
theorem rev_pick (s : List Nat) (u : Tok) : ((slicePicked (enc s) none none (some (-1, u))).filterMap ((enc s).cps[·]?)).toArray = (enc s.reverse).cps := by
  have e : slicePicked (enc s) none none (some (-1, u)) = (List.range s.length).reverse := by
    unfold slicePicked Builtin.Str.strSliceIndices
    have e1 : (enc s).length = s.length := by simp [enc, Str.length]
    rw [e1]
    show sliceRange ((s.length : Int) - 1) (-1) (-1) = _
    rw [PySem.W.krv_sliceRange, PySem.W.krv_range]
  have e2 := PySem.W.krv_all (enc s).cps
  have e3 : (enc s).cps.size = s.length := by simp [enc]
  rw [e3] at e2
  rw [e, List.filterMap_reverse, e2]
  simp [enc]
theorem pe_revT {e : Expr} {te : TE} {j : Nat} {p1 p2 p3 pos : Pos} (he : PE X e te) : PE X (.Subscript e (.Slice none none (some (.UnaryOp .USub (.Constant (.int 1) j p1) p2)) p3) pos) (tRevT te) := by
  refine ⟨fun pins s σ H Q I h => Subscript_ (thn (he.run pins s σ H _ I h) fun v s1 ⟨x, H1, I1, r1, z, ex, hz, q⟩ => ?_)⟩
  subst ex
  obtain ⟨t, rfl⟩ := r1
  have hst : PO X (some (.UnaryOp .USub (.Constant (.int 1) j p1) p2)) (tPart (tUn (rU fun i => .int (-i)) (tC (.int 1)))) := po_some (pe_un un_neg pe_int)
  refine wpAny_Slice (thn (po_none.run pins s1 σ H1 (fun o H2 => o = none ∧ H2 = H1) I1 ⟨rfl, rfl⟩) fun vl s2 ⟨l, H2, I2, pl, el, e2⟩ => ?_)
  subst el e2
  refine thn (po_none.run pins s2 σ H2 (fun o H3 => o = none ∧ H3 = H2) I2 ⟨rfl, rfl⟩) fun vu s3 ⟨y, H3, I3, pu, eu, e3⟩ => ?_
  subst eu e3
  refine thn (hst.run pins s3 σ H3 (fun o H4 => o = some (-1) ∧ H4 = H3) I3 ⟨1, rfl, -1, rfl, rfl, rfl⟩) fun vs s4 ⟨o, H4, I4, ps, eo, e4⟩ => ?_
  subst eo e4
  cases pl
  cases pu
  obtain ⟨u, rfl⟩ : ∃ u, vs = .int (-1) u := by
    cases ps
    exact ⟨_, rfl⟩
  have I5 : Inv X pins σ H4 { s4 with heap := s4.heap.push { cls := .type "slice", data := .fields #[.none, .none, .int (-1) u] } } := I4.kept (t' := s4.toks) fun b ob q => Heap.get?_push_of_some _ q
  refine tail_any (ops := [.ref s4.heap.objs.size, .str (enc z) t]) (typeIs_str _ _ _) PySem.F.slot_str_getitem.lookup ?_ (by with_unfolding_all rfl)
  refine wpAny_getItem_str_slice (l := none) (u := none) (st := some (-1, u)) ⟨_, Heap.get?_push_size _ rfl, rfl, rfl⟩ rfl ?_
  unfold sliceMade
  rw [if_neg (by simp), rev_pick]
  refine ⟨by rw [show (⟨(enc z.reverse).cps⟩ : Str).length = z.length by simp [enc, Str.length]]; exact hz, ⟨.str (enc z.reverse), H4, I5.tok _, ⟨_, rfl⟩, q⟩⟩
def f_rev : VD → Mem → Res VD
  | .d (.str s), M => if s.length ≤ lim then .ok (.d (.str s.reverse)) M else .fail
  | _, _ => .fail
def e_rev (m : Mx VD) : Mx VD := fun ρ M => (m ρ M).bind f_rev
theorem x_revT {e : Expr} {m : Mx VD} {j : Nat} {p1 p2 p3 pos : Pos} (h : PX X C E e m) : PX X C E (.Subscript e (.Slice none none (some (.UnaryOp .USub (.Constant (.int 1) j p1) p2)) p3) pos) (e_rev m) := by
  obtain ⟨te, pe, se⟩ := h
  refine ⟨_, pe_revT pe, fun W σ H ρ M Q ok sl p => se W σ H ρ M _ ok sl (post_bind p fun v M1 W1 H1 x l1 ok1 ra p1 => ?_)⟩
  unfold f_rev at p1
  split at p1
  · split at p1
    · rename_i h
      cases inv_str ra
      exact ⟨_, rfl, lim_le h, post_ok p1 ok1 (.str _)⟩
    · exact p1.elim
  · exact p1.elim
/-! a + b, a new list that will change -/
def f_addO (a b : VD) (M : Mem) : Res VD := match lstOf M a, lstOf M b with
  | some s, some t => if s.length + t.length ≤ lim then .ok (.adr M.length) (M ++ [.lst (s ++ t)]) else .fail
  | _, _ => .fail
theorem p_addO : OpS C E rCat f_addO := fun W H M x y a b Q ok ra rb p => by
  unfold f_addO at p
  split at p
  · rename_i s t e1 e2
    split at p
    · rename_i h
      obtain ⟨q1, v1, rfl, h1, r1⟩ := lst_read ok ra e1
      obtain ⟨q2, v2, rfl, h2, r2⟩ := lst_read ok rb e2
      exact ⟨_, _, _, _, rfl, rfl, h1, h2, by rw [r1.length, r2.length]; exact lim_le h, post_lstO p ok (r1.append r2)⟩
    · exact p.elim
  · exact p.elim
theorem x_addO {a b : Expr} {ma mb : Mx VD} {pos : Pos} (ha : PX X C E a ma) (hb : PX X C E b mb) : PX X C E (.BinOp a .Add b pos) (e_op f_addO ma mb) := x_op op_cat p_addO ha hb
end
end G

/-! objects of the program's own classes -/
namespace G
open PySem PySem.Spec PyProof.Rows L2
/-- where f stands among the names -/
def ixOf (f : Str) : List Str → Option Nat
  | [] => none
  | g :: r => if g = f then some 0 else (ixOf f r).map (· + 1)
theorem zip_lookup {f : Str} : ∀ {ns : List Str} {i : Nat} (vs : List V), ixOf f ns = some i → (ns.zip vs).lookup f = vs[i]?
  | [], _, _, h => by cases h
  | g :: r, i, [], h => by simp
  | g :: r, i, v :: vs, h => by
    unfold ixOf at h
    by_cases e : g = f
    · rw [if_pos e] at h
      cases h
      subst e
      simp [List.lookup]
    · rw [if_neg e] at h
      cases q : ixOf f r with
      | none => rw [q] at h; cases h
      | some j =>
        rw [q] at h
        cases h
        have ne : (f == g) = false := by
          rw [beq_eq_false_iff_ne]
          exact fun z => e z.symm
        simp only [List.zip_cons_cons, List.lookup, ne, List.getElem?_cons_succ]
        exact zip_lookup vs q
theorem zip_none {f : Str} : ∀ {ns : List Str} (vs : List V), ixOf f ns = none → (ns.zip vs).lookup f = none
  | [], _, _ => by simp
  | g :: r, [], h => by simp
  | g :: r, v :: vs, h => by
    unfold ixOf at h
    by_cases e : g = f
    · rw [if_pos e] at h
      cases h
    · rw [if_neg e] at h
      have ne : (f == g) = false := by
        rw [beq_eq_false_iff_ne]
        exact fun z => e z.symm
      simp only [List.zip_cons_cons, List.lookup, ne]
      refine zip_none vs ?_
      cases q : ixOf f r with
      | none => rfl
      | some j => rw [q] at h; cases h
theorem zip_put {f : Str} {v : V} : ∀ {ns : List Str} {i : Nat} (vs : List V), ixOf f ns = some i → i ≤ vs.length → vs.length ≤ ns.length → putF f v (ns.zip vs) = ns.zip (if i < vs.length then vs.set i v else vs ++ [v])
  | [], _, _, h, _, _ => by cases h
  | g :: r, i, [], h, hi, _ => by
    have hi : i = 0 := by simpa using hi
    subst hi
    unfold ixOf at h
    by_cases e : g = f
    · subst e
      simp [putF]
    · rw [if_neg e] at h
      cases q : ixOf f r with
      | none => rw [q] at h; cases h
      | some j => rw [q] at h; cases h
  | g :: r, i, w :: vs, h, hi, hl => by
    unfold ixOf at h
    by_cases e : g = f
    · rw [if_pos e] at h
      cases h
      subst e
      simp [putF]
    · rw [if_neg e] at h
      cases q : ixOf f r with
      | none => rw [q] at h; cases h
      | some j =>
        rw [q] at h
        cases h
        have ih := zip_put (v := v) vs q (by simpa using hi) (by simpa using hl)
        simp only [List.zip_cons_cons, putF, if_neg e, ih, List.length_cons, Nat.add_lt_add_iff_right, List.set_cons_succ]
        split <;> simp
/-- the class c has the field f, at place i -/
structure Fld (C : Cf) (f : Str) (c i : Nat) : Prop where
  cl : Cls C.K (C.ca c)
  na : NoAttr C.K (C.ca c) f
  ix : ixOf f (C.nm c) = some i
section
variable {X : Cx} {C : Cf} {E : XK} {CX : CXT} {k : Nat}
def f_fld (tab : Nat → Option Nat) (v : VD) (M : Mem) : Res VD := match v with
  | .d (.obj c fs) => match tab c with
    | some i => match fs[i]? with
      | some d => .ok (.d d) M
      | none => .fail
    | none => .fail
  | .adr j => match M[j]? with
    | some (.ins c fs) => match tab c with
      | some i => match fs[i]? with
        | some d => .ok d M
        | none => .fail
      | none => .fail
    | _ => .fail
  | _ => .fail
def e_fld (tab : Nat → Option Nat) (m : Mx VD) : Mx VD := fun ρ M => (m ρ M).bind (f_fld tab)
theorem x_fld {tab : Nat → Option Nat} {e : Expr} {f : Str} {m : Mx VD} {pos : Pos} (hK : C.K = X.K) (hf : ∀ c i, tab c = some i → Fld C f c i) (h : PX X C E e m) (hb : attributeBase e f X.env (eval e X.env) = eval e X.env := by rfl) : PX X C E (.Attribute e f pos) (e_fld tab m) := by
  obtain ⟨te, pe, se⟩ := h
  refine ⟨_, pe_fld pe hb, fun W σ H ρ M Q ok sl p => se W σ H ρ M _ ok sl (post_bind p fun v M1 W1 H1 x l1 ok1 ra p1 => ?_)⟩
  unfold f_fld at p1
  split at p1
  · rename_i c fs
    split at p1
    · rename_i i e1
      split at p1
      · rename_i d e2
        obtain ⟨q1, q2, q3⟩ := hf c i e1
        cases (show Rep C W1.B x (.obj c fs) from ra) with
        | obj h1 h2 h3 =>
          obtain ⟨y, h4, h5⟩ := h3.get e2
          exact ⟨_, _, _, _, y, rfl, ok1.sub _ _ h1, by rw [← hK]; exact q1, by rw [← hK]; exact q2, by rw [zip_lookup _ q3]; exact h4, post_ok p1 ok1 h5⟩
      · exact p1.elim
    · exact p1.elim
  · rename_i j
    split at p1
    · rename_i c fs e0
      split at p1
      · rename_i i e1
        split at p1
        · rename_i d e2
          obtain ⟨q1, q2, q3⟩ := hf c i e1
          obtain ⟨a, rfl, ha⟩ := ra
          obtain ⟨_, dx, vs, h1, h2, h3⟩ := ok1.mo j a _ ha e0
          obtain ⟨y, h4, h5⟩ := h3.get e2
          exact ⟨_, _, _, _, y, rfl, h1, by rw [← hK]; exact q1, by rw [← hK]; exact q2, by rw [zip_lookup _ q3]; exact h4, p1 _ _ _ (Step.refl _ _) ok1 h5⟩
        · exact p1.elim
      · exact p1.elim
    · exact p1.elim
  · exact p1.elim
theorem ixOf_lt {f : Str} : ∀ {ns : List Str} {i : Nat}, ixOf f ns = some i → i < ns.length
  | [], _, h => by cases h
  | g :: r, i, h => by
    unfold ixOf at h
    by_cases e : g = f
    · rw [if_pos e] at h
      cases h
      exact Nat.zero_lt_succ _
    · rw [if_neg e] at h
      cases q : ixOf f r with
      | none => rw [q] at h; cases h
      | some j =>
        rw [q] at h
        cases h
        have := ixOf_lt q
        simpa using this
theorem RepVA.set {W : Wd} {v : V} {d : VD} (h : RepV C W v d) : ∀ {vs : List V} {ds : List VD} (i : Nat), RepVA C W vs ds → RepVA C W (vs.set i v) (ds.set i d)
  | _, _, _, .nil => .nil
  | _, _, 0, .cons _ r => .cons h r
  | _, _, i + 1, .cons q r => .cons q (RepVA.set h i r)
/-- o.f = v -/
def f_put (tab : Nat → Option Nat) (v o : VD) (M : Mem) : Res Unit := match o with
  | .adr j => match M[j]? with
    | some (.ins c fs) => match tab c with
      | some i => if i ≤ fs.length then .ok () (M.set j (.ins c (if i < fs.length then fs.set i v else fs ++ [v]))) else .fail
      | none => .fail
    | _ => .fail
  | _ => .fail
def s_fld (tab : Nat → Option Nat) (m o : Mx VD) : Sx := fun ρ M => (m ρ M).out fun v M1 => (o ρ M1).out fun x M2 => (f_put tab v x M2).out fun _ M3 => .nx ρ M3
theorem xs_fld {tab : Nat → Option Nat} {o e : Expr} {f : Str} {m mo : Mx VD} {p' pos : Pos} (hK : C.K = X.K) (hf : ∀ c i, tab c = some i → Fld C f c i) (hn : ∀ c, (C.nm c).length < 1000) (h : PX X C E e m) (ho : PX X C E o mo) (hs : swapsWith e (some (.Attribute o f p')) pos.line X.env = pure false := by rfl) : PXS X C E (.Assign [.Attribute o f p'] e pos) (s_fld tab m mo) := by
  obtain ⟨t, pt, st⟩ := h
  obtain ⟨to, po, so⟩ := ho
  refine ⟨_, ps_fld po pt hs, fun W σ H ρ M D ok sl p => ?_⟩
  refine st W σ H ρ M _ ok sl (post_out p fun v M1 W1 H1 vv l1 ok1 rv p1 => ?_)
  refine so W1 σ H1 ρ M1 _ ok1 (sl.mono l1.le) (post_out p1 fun x M2 W2 H2 vx l2 ok2 rx p2 => ?_)
  have rv := rv.mono l2.le
  have sl2 := (sl.mono l1.le).mono l2.le
  unfold f_put at p2
  split at p2
  · rename_i j
    split at p2
    · rename_i c fs e0
      split at p2
      · rename_i i e1
        split at p2
        · rename_i hi
          obtain ⟨q1, q2, q3⟩ := hf c i e1
          obtain ⟨a, rfl, ha⟩ := rx
          obtain ⟨hB, dx, vs, h1, h2, h3⟩ := ok2.mo j a _ ha e0
          have hlen := h3.length
          have hz := zip_put (v := vv) vs q3 (by omega) h2
          refine ⟨a, _, dx, _, rfl, h1, by rw [← hK]; exact q1, by rw [← hK]; exact q2, ?_, ?_⟩
          · rw [List.length_zip]
            have := hn c
            omega
          · rw [hz]
            have lt := ixOf_lt q3
            have ok3 := ok2.write (o := .ins (C.ca c) dx ((C.nm c).zip (if i < vs.length then vs.set i vv else vs ++ [vv]))) (m := .ins c (if i < fs.length then fs.set i v else fs ++ [v])) ha e0 (fun z => by cases z) ⟨hB, dx, _, upd_same, by
              split
              · rw [List.length_set]; exact h2
              · rw [List.length_append]; simp; omega, by
              rw [hlen]
              split
              · exact RepVA.set rv i h3
              · exact h3.append (.cons rv .nil)⟩
            exact p2 _ _ _ (Step.write ha) ok3 sl2
        · exact p2.elim
      · exact p2.elim
    · exact p2.elim
  · exact p2.elim
/-! methods, constructors -/
/-- a def's promise by positional values -/
def spP (C : Cf) (m : List VD → Mem → Res VD) : Sp := fun vs H Q E => ∃ W M ds, Ok C W H M ∧ RepVA C W vs ds ∧ post C (relV C) E Q W H (m ds M)
/-- n values, no other number -/
def ar (n : Nat) (m : List VD → Mem → Res VD) : List VD → Mem → Res VD := fun ds M => if ds.length = n then m ds M else .fail
/-- the defaults dv fill up to n -/
def arD (n : Nat) (dv : List D) (m : List VD → Mem → Res VD) : List VD → Mem → Res VD := fun ds M => if ds.length + dv.length = n then m (ds ++ dv.map .d) M else .fail
section
variable {P : Program} {w : World} {K : PySem.W.Frag} {mg : Str → Option Value} {base : Heap} {CX : CXT} {C : Cf}
theorem cal_mk {j n : Nat} {m} {f : Addr} {fd : FuncData} {ps : List Str} (F : FnOk P w K mg base CX j f fd ps (spD C n m)) (hb : Binds K fd ps []) : FnR P w K mg base CX j f (spP C (ar n m)) :=
  (FnOk.raw F hb .nil).imp fun vs H Q E ⟨W, M, ds, ok, r, p⟩ => by
    unfold ar at p
    rw [List.append_nil]
    split at p
    · rename_i hl
      exact ⟨W, M, ds, ok, r, hl, p⟩
    · exact p.elim
theorem repA_d {W : Wd} : ∀ {vs : List V} {ds : List D}, RepA C W.B vs ds → RepVA C W vs (ds.map .d)
  | _, _, .nil => .nil
  | _, _, .cons h r => .cons (d := .d _) h (repA_d r)
theorem cal_dfl {j n : Nat} {m} {f : Addr} {fd : FuncData} {ps : List Str} {ds0 : List Value} {dvs : List V} {dv : List D} (F : FnOk P w K mg base CX j f fd ps (spD C n m)) (hb : Binds K fd ps ds0) (hd : Vals dvs ds0) (hr : ∀ B, RepA C B dvs dv) : FnR P w K mg base CX j f (spP C (arD n dv m)) :=
  (FnOk.raw F hb hd).imp fun vs H Q E ⟨W, M, ds, ok, r, p⟩ => by
    unfold arD at p
    split at p
    · rename_i hl
      exact ⟨W, M, _, ok, r.append (repA_d (hr W.B)), by rw [List.length_append, List.length_map]; exact hl, p⟩
    · exact p.elim
theorem cal_or {j : Nat} {m1 m2 : List VD → Mem → Res VD} {f : Addr} (c : List VD → Bool) (F1 : FnR P w K mg base CX j f (spP C m1)) (F2 : FnR P w K mg base CX j f (spP C m2)) : FnR P w K mg base CX j f (spP C fun ds M => if c ds then m1 ds M else m2 ds M) :=
  fun A outer s H us vs Q E hr e0 r ⟨W, M, ds, ok, rv, p⟩ => by
    dsimp only at p
    split at p
    · exact F1 A outer s H us vs Q E hr e0 r ⟨W, M, ds, ok, rv, p⟩
    · exact F2 A outer s H us vs Q E hr e0 r ⟨W, M, ds, ok, rv, p⟩
end
structure MethOk (P : Program) (w : World) (K : PySem.W.Frag) (mg : Str → Option Value) (base : Heap) (CX : CXT) (C : Cf) (c : Nat) (x : Str) (j : Nat) (m : List VD → Mem → Res VD) : Prop where
  ex : ∃ f, FnR P w K mg base CX j f (spP C m) ∧ Meth K (C.ca c) x f
  cl : Cls K (C.ca c)
  no : ixOf x (C.nm c) = none
def isC (c : Nat) (M : Mem) (v : VD) : Bool := match v with
  | .d (.obj c' _) => c' == c
  | .adr j => match M[j]? with
    | some (.ins c' _) => c' == c
    | _ => false
  | _ => false
theorem isC_at {c : Nat} {W : Wd} {H : Hp} {M : Mem} {v : V} {d : VD} (ok : Ok C W H M) (r : RepV C W v d) (h : isC c M d = true) : ∃ a dx vs, v = .ref a ∧ H a = some (.ins (C.ca c) dx ((C.nm c).zip vs)) := by
  unfold isC at h
  split at h
  · rename_i c' fs
    have e : c' = c := by simpa using h
    subst e
    cases (show Rep C W.B v (.obj c' fs) from r) with
    | obj h1 h2 h3 => exact ⟨_, _, _, rfl, ok.sub _ _ h1⟩
  · rename_i j
    obtain ⟨a, rfl, ha⟩ := r
    split at h
    · rename_i c' fs e0
      have e : c' = c := by simpa using h
      subst e
      obtain ⟨_, dx, vs, h1, h2, h3⟩ := ok.mo j a _ ha e0
      exact ⟨a, dx, vs, rfl, h1⟩
    · cases h
  · cases h
def e_meth (c : Nat) (m : List VD → Mem → Res VD) (mo : Mx VD) (ms : Mx (List VD)) : Mx VD := fun ρ M => (mo ρ M).bind fun x M1 => if isC c M1 x then (ms ρ M1).bind fun vs M2 => m (x :: vs) M2 else .fail
theorem x_meth {c j : Nat} {m} {x : Str} {o e : Expr} {es : List Expr} {mo : Mx VD} {ms : Mx (List VD)} {p pos : Pos} {pl : PySem.Sem Bool} (cx : Cxx X C E CX k) (F : MethOk X.prog X.w X.K X.mg X.base CX C c x j m) (ho : PX X C E o mo) (ha : PXA X C E (e :: es) ms) (hj : j ≤ k := by decide)
    (hst : starEach (e :: es) X.env = (false, eval e X.env) :: starEach es X.env := by rfl) (hpl : (backTo pos (starEach es X.env)).any (·.1) = false := by rfl)
    (ht : eval (.Call (.Attribute o x p) (e :: es) [] pos) X.env = (do
      let ov ← eval o X.env
      standAt p.atName
      let (f, first) ← holding [ov] (getMethod ov x pl)
      callWith pos f first (backTo pos (starEach (e :: es) X.env)) (backToKw pos (keywordEach [] X.env))) := by rfl) :
    PX X C E (.Call (.Attribute o x p) (e :: es) [] pos) (e_meth c m mo ms) := by
  obtain ⟨⟨f, F, hm⟩, hc, hno⟩ := F
  obtain ⟨to, po, so⟩ := ho
  obtain ⟨ta, pa, sa⟩ := ha
  refine ⟨_, pe_methR po hc hm F (cx.hr.mono hj) cx.pas pa hst hpl ht, fun W σ H ρ M Q ok sl p => ?_⟩
  refine so W σ H ρ M _ ok sl (post_bind p fun v M1 W1 H1 vv l1 ok1 rv p1 => ?_)
  split at p1
  · rename_i hi
    obtain ⟨a, dx, vs, rfl, h1⟩ := isC_at ok1 rv hi
    exact ⟨a, dx, _, rfl, h1, zip_none vs hno, sa W1 σ H1 ρ M1 _ ok1 (sl.mono l1.le) (post_bind p1 fun ws M2 W2 H2 y l2 ok2 rw p2 => ⟨W2, M2, _, ok2, .cons (rv.mono l2.le) rw, p2⟩)⟩
  · exact p1.elim
def tMethR0 (C : Addr) (m : Str) (sp : Sp) (E : XK) (ta : TE) : TE := fun σ H Q => ta σ H fun x H1 => ∃ a dx fs, x = .ref a ∧ H1 a = some (.ins C dx fs) ∧ fs.lookup m = none ∧ sp [x] H1 Q E
theorem x_meth0 {c j : Nat} {m} {x : Str} {o : Expr} {mo : Mx VD} {p pos : Pos} {pl : PySem.Sem Bool} (cx : Cxx X C E CX k) (F : MethOk X.prog X.w X.K X.mg X.base CX C c x j m) (ho : PX X C E o mo) (hj : j ≤ k := by decide)
    (ht : eval (.Call (.Attribute o x p) [] [] pos) X.env = (do
      let ov ← eval o X.env
      standAt p.atName
      let (f, first) ← holding [ov] (getMethod ov x pl)
      callWith pos f first (backTo pos (starEach [] X.env)) (backToKw pos (keywordEach [] X.env))) := by rfl) :
    PX X C E (.Call (.Attribute o x p) [] [] pos) (e_meth c m mo a_nil) := by
  obtain ⟨⟨f, F, hm⟩, hc, hno⟩ := F
  obtain ⟨to, po, so⟩ := ho
  refine ⟨tMethR0 (C.ca c) x (spP C m) E to, ⟨fun pins s σ H Q I h => ?_⟩, fun W σ H ρ M Q ok sl p => ?_⟩
  · refine PySem.W.methodCall_KW (pl := pl) (thn (po.run pins s σ H _ I h) fun u s1 ⟨x, H1, I1, rx, a, dx, fs, ex, ea, l, q⟩ => ?_) ht
    subst ex
    obtain rfl : u = Value.ref a := rx
    refine getmeth_ok I1 ea hc hm l ?_
    exact PySem.W.callWith_K0 (first := [.ref a]) I1.kIn hm.kp (wpAny_call (run_fnR (us := [.ref a]) (vs := [.ref a]) F (cx.hr.mono hj) cx.pas I1 (.cons rfl .nil) q))
  · refine so W σ H ρ M _ ok sl (post_bind p fun v M1 W1 H1 vv l1 ok1 rv p1 => ?_)
    split at p1
    · rename_i hi
      obtain ⟨a, dx, vs, rfl, h1⟩ := isC_at ok1 rv hi
      exact ⟨a, dx, _, rfl, h1, zip_none vs hno, ⟨W1, M1, [v], ok1, .cons rv .nil, p1⟩⟩
    · exact p1.elim
/-- a class that is made -/
structure MakeOk (P : Program) (w : World) (K : PySem.W.Frag) (mg : Str → Option Value) (base : Heap) (CX : CXT) (C : Cf) (c : Nat) (x : Str) (j : Nat) (m : List VD → Mem → Res VD) : Prop where
  ex : ∃ f, FnR P w K mg base CX j f (spP C m) ∧ Mk K (C.ca c) f
  mg : mg x = some (.ref (C.ca c))
/-- a new instance, then __init__ -/
def mkI (c : Nat) (m : List VD → Mem → Res VD) (vs : List VD) (M : Mem) : Res Unit := (m (.adr M.length :: vs) (M ++ [.ins c []])).bind fun v M1 => match v with
  | .d .non => .ok () M1
  | _ => .fail
/-- it changes no more -/
def frzI (c k j : Nat) (M : Mem) : Res VD := match M[j]? with
  | some (.ins c' fs) => match dats fs with
    | some ds => if c' = c ∧ ds.length = k then .ok (.d (.obj c ds)) (M.set j .dead) else .fail
    | none => .fail
  | _ => .fail
def e_make (c k : Nat) (m : List VD → Mem → Res VD) (ms : Mx (List VD)) : Mx VD := fun ρ M => (ms ρ M).bind fun vs M1 => (mkI c m vs M1).bind fun _ M2 => frzI c k M1.length M2
def e_makeO (c : Nat) (m : List VD → Mem → Res VD) (ms : Mx (List VD)) : Mx VD := fun ρ M => (ms ρ M).bind fun vs M1 => (mkI c m vs M1).bind fun _ M2 => .ok (.adr M1.length) M2
theorem frzI_ok {c k j : Nat} {W : Wd} {H : Hp} {M M2 : Mem} {a : Addr} {d : VD} (hk : (C.nm c).length = k) (ok : Ok C W H M) (ha : W.al[j]? = some a) (h : frzI c k j M = .ok d M2) : ∃ W2, Step W H W2 H ∧ Ok C W2 H M2 ∧ RepV C W2 (.ref a) d := by
  unfold frzI at h
  split at h
  · rename_i c' fs e0
    split at h
    · rename_i ds e1
      split at h
      · rename_i hc
        obtain ⟨rfl, hl⟩ := hc
        cases h
        obtain ⟨hB, dx, vs, h1, h2, h3⟩ := ok.mo j a _ ha e0
        obtain ⟨ok', l⟩ := ok.freeze ha e0 (fun z => by cases z) h1
        have hr := h3.dat e1
        have hv : vs.length = (C.nm c').length := by rw [hr.length, hl, hk]
        exact ⟨_, Step.freeze ha hB, ok', Rep.obj (by show upd W.B a _ a = _; rw [upd_same]) hv (hr.mono l.1)⟩
      · cases h
    · cases h
  · cases h
theorem sem_mkI {c : Nat} {m} {γ δ : Type} {rel2 : Wd → δ → γ → Prop} {Q2 : δ → Hp → Prop} {W : Wd} {H : Hp} {M : Mem} {vs : List V} {ds : List VD} {kk : Unit → Mem → Res γ} (ok : Ok C W H M) (ra : RepVA C W vs ds) {Q : VK} (p : post C rel2 E Q2 W H ((mkI c m ds M).bind kk))
    (hk : ∀ W2 H2 M2 x, Step W H W2 H2 → Ok C W2 H2 M2 → W2.al[M.length]? = some x → post C rel2 E Q2 W2 H2 (kk () M2) → Q (.ref x) H2) :
    ∀ x dx, H x = none → H dx = none → dx ≠ x → spP C m (.ref x :: vs) (upd (upd H dx (.own x)) x (.ins (C.ca c) dx [])) (fun v H2 => v = .non ∧ Q (.ref x) H2) E := fun x dx hx hdx ne => by
  have ok1 : Ok C W (upd H dx (.own x)) M := ok.grow (same_upd hdx)
  have hx1 : upd H dx (.own x) x = none := by rw [upd_ne (Ne.symm ne)]; exact hx
  obtain ⟨ok2, l⟩ := ok1.newM (o := .ins (C.ca c) dx []) (m := .ins c []) hx1 ⟨ok1.notB hx1, dx, [], by rw [upd_same]; simp, Nat.zero_le _, .nil⟩
  have st : Step W H ⟨W.B, W.al ++ [x]⟩ (upd (upd H dx (.own x)) x (.ins (C.ca c) dx [])) := (Step.grow hdx).trans (Step.newM ok1 hx1)
  have hat : (W.al ++ [x])[M.length]? = some x := by rw [← ok.len]; simp
  unfold mkI at p
  refine ⟨_, _, .adr M.length :: ds, ok2, .cons ⟨x, rfl, hat⟩ (ra.mono l), ?_⟩
  have p := post.mono st p
  cases q : m (.adr M.length :: ds) (M ++ [.ins c []]) with
  | fail => rw [q] at p; exact p.elim
  | exc c' fs M1 => rw [q] at p; exact p
  | ok v M1 =>
    rw [q] at p
    intro W2 H2 y s2 ok3 ry
    have p2 := post.mono s2 p
    cases v with
    | adr _ => exact p2.elim
    | d v =>
      cases v with
      | non => exact ⟨inv_non ry, hk W2 H2 M1 x (st.trans s2) ok3 (s2.le.at hat) p2⟩
      | bl _ => exact p2.elim
      | int _ => exact p2.elim
      | str _ => exact p2.elim
      | lst _ => exact p2.elim
      | tup _ => exact p2.elim
      | obj _ _ => exact p2.elim
      | scr _ => exact p2.elim
      | clo _ => exact p2.elim
      | exn _ _ => exact p2.elim
      | pv _ => exact p2.elim
theorem x_make {c kf j : Nat} {m} {x : Str} {e : Expr} {es : List Expr} {ms : Mx (List VD)} {p pos : Pos} (cx : Cxx X C E CX k) (F : MakeOk X.prog X.w X.K X.mg X.base CX C c x j m) (hk : (C.nm c).length = kf) (ha : PXA X C E (e :: es) ms) (hj : j + 1 ≤ k := by decide) (hg : Gl X x := by rfl)
    (hdb : (x == ("__debug__" : Str)) = false := by decide) (he : starEach (e :: es) X.env = (false, eval e X.env) :: starEach es X.env := by rfl) (hpl : (backTo pos (starEach es X.env)).any (·.1) = false := by rfl) :
    PX X C E (.Call (.Name x p) (e :: es) [] pos) (e_make c kf m ms) := by
  obtain ⟨⟨f, F, M0⟩, hm⟩ := F
  obtain ⟨ta, pa, sa⟩ := ha
  refine ⟨_, StX.pe_makeR M0 F (cx.hr.mono hj) hg hm cx.pas pa hdb he hpl, fun W σ H ρ M Q ok sl p => ?_⟩
  refine sa W σ H ρ M _ ok sl (post_bind p fun vs M1 W1 H1 x l1 ok1 ra p1 => ?_)
  refine sem_mkI ok1 ra p1 fun W2 H2 M2 y s2 ok2 hy p2 => ?_
  cases q : frzI c kf M1.length M2 with
  | fail => rw [q] at p2; exact p2.elim
  | exc _ _ _ =>
    unfold frzI at q
    repeat (first | cases q | split at q)
  | ok d M3 =>
    rw [q] at p2
    obtain ⟨W3, s3, ok3, r3⟩ := frzI_ok hk ok2 hy q
    exact p2 _ _ _ s3 ok3 r3
theorem x_makeO {c j : Nat} {m} {x : Str} {e : Expr} {es : List Expr} {ms : Mx (List VD)} {p pos : Pos} (cx : Cxx X C E CX k) (F : MakeOk X.prog X.w X.K X.mg X.base CX C c x j m) (ha : PXA X C E (e :: es) ms) (hj : j + 1 ≤ k := by decide) (hg : Gl X x := by rfl)
    (hdb : (x == ("__debug__" : Str)) = false := by decide) (he : starEach (e :: es) X.env = (false, eval e X.env) :: starEach es X.env := by rfl) (hpl : (backTo pos (starEach es X.env)).any (·.1) = false := by rfl) :
    PX X C E (.Call (.Name x p) (e :: es) [] pos) (e_makeO c m ms) := by
  obtain ⟨⟨f, F, M0⟩, hm⟩ := F
  obtain ⟨ta, pa, sa⟩ := ha
  refine ⟨_, StX.pe_makeR M0 F (cx.hr.mono hj) hg hm cx.pas pa hdb he hpl, fun W σ H ρ M Q ok sl p => ?_⟩
  refine sa W σ H ρ M _ ok sl (post_bind p fun vs M1 W1 H1 x l1 ok1 ra p1 => ?_)
  exact sem_mkI ok1 ra p1 fun W2 H2 M2 y s2 ok2 hy p2 => p2 _ _ _ (Step.refl _ _) ok2 ⟨y, rfl, hy⟩
end
end G

/-! own special methods -/
namespace G
open PySem PySem.Spec PyProof.Rows L2
section
variable {X : Cx} {C : Cf} {E : XK} {CX : CXT} {k : Nat}
/-- a def of the class, called by its address -/
structure OwnOk (P : Program) (w : World) (K : PySem.W.Frag) (mg : Str → Option Value) (base : Heap) (CX : CXT) (C : Cf) (c : Nat) (x : Str) (j : Nat) (m : List VD → Mem → Res VD) : Prop where
  ex : ∃ f, FnR P w K mg base CX j f (spP C m) ∧ PySem.W.findIn K (.ref (C.ca c)) x = some (some (.ref f)) ∧ PySem.W.isFn K (.ref f) = true
theorem own_run {j : Nat} {m} {f : Addr} {A : Around} (sb : L2.Sub X j A) (F : FnR X.prog X.w X.K X.mg X.base CX j f (spP C m)) (hx : Passes CX X E) {pins : List (Addr × Obj)} {σ : L2.St} {H : Hp} {s : Shared} {Q : VK} {us : List Value} {vs : List V}
    (I : Inv X pins σ H s) (r : Vals vs us) (h : spP C m vs H Q E) : wpAny (model X.prog X.w) A (call (.ref f) us) (EP X pins σ Q) X.xe s := by
  have e0 : Env0 X.prog X.w X.K X.mg X.base A X.stack s H := by
    have e := I.env0
    exact ⟨by rw [sb.fr]; exact e.frames, e.mod, e.bs, e.bsz, e.funs, e.frf, e.hok, e.bare⟩
  refine wpAny_call (codeAny_mono (F A X.stack s H us vs Q E sb.room e0 r h) fun t s' hq => ?_)
  cases t with
  | error e => exact hx pins σ H s e s' I hq
  | ok fl =>
    cases fl with
    | ret u => exact I.after hq
    | next => exact False.elim hq
    | brk => exact False.elim hq
    | cont => exact False.elim hq
theorem Cxx.sub (c : Cxx X C E CX k) : L2.Sub X k X.A := ⟨c.hr, rfl⟩
/-- the call of a def of the object's class; then what its value must be -/
def rOwn (C : Cf) (c n : Nat) (m : List VD → Mem → Res VD) (E : XK) (T : V → (V → Prop) → Prop) : List V → Hp → VK → Prop := fun xs H Q => ∃ a dx fs r, xs = .ref a :: r ∧ H a = some (.ins (C.ca c) dx fs) ∧ xs.length = n ∧ spP C m xs H (fun v H2 => T v fun y => Q y H2) E
def tInt : V → (V → Prop) → Prop := fun v q => ∃ i : Int, v = .int i ∧ 0 ≤ i ∧ i < 2 ^ 63 ∧ q (.int i)
def tStr : V → (V → Prop) → Prop := fun v q => ∃ i : Str, v = .str i ∧ q (.str i)
def tBl (neg : Bool) : V → (V → Prop) → Prop := fun v q => ∃ i : Bool, v = .bl i ∧ q (.bl (i != neg))
theorem cr_lenO {c j : Nat} {m} (cx : Cxx X C E CX k) (F : OwnOk X.prog X.w X.K X.mg X.base CX C c "__len__" j m) (hj : j + 1 ≤ k) : CallR X (.builtin "len") (rOwn C c 1 m E tInt) := by
  intro pins s σ H xs us Q I r h
  obtain ⟨a, dx, fs, l, rfl, ha, h1, sp⟩ := h
  obtain ⟨f, F, hs, hf⟩ := F.ex
  obtain rfl : l = [] := by simpa using h1
  obtain ⟨u, rfl, rx⟩ := vals1 r
  cases rx
  obtain ⟨mA, J, _⟩ := ins_get I.hok ha
  obtain ⟨od, J, _⟩ := J.look
  obtain ⟨m', hF⟩ := I.fr
  refine PySem.W.len_K hF I.ok.mod.kin J hs hf (wpAny_mono (own_run (cx.sub.mono hj).in1 F cx.pas I r sp) (fun u s' q => ?_) fun _ _ z => z)
  obtain ⟨v, H', I', rv, i, rfl, h0, h2, q⟩ := q
  obtain ⟨t, rfl⟩ := rv
  exact ⟨⟨h0, h2⟩, .int i, H', I'.tok _, ⟨_, rfl⟩, q⟩
theorem cr_reprO {c j : Nat} {m} (cx : Cxx X C E CX k) (F : OwnOk X.prog X.w X.K X.mg X.base CX C c "__repr__" j m) (hj : j + 1 ≤ k) : CallR X (.builtin "repr") (rOwn C c 1 m E tStr) := by
  intro pins s σ H xs us Q I r h
  obtain ⟨a, dx, fs, l, rfl, ha, h1, sp⟩ := h
  obtain ⟨f, F, hs, hf⟩ := F.ex
  obtain rfl : l = [] := by simpa using h1
  obtain ⟨u, rfl, rx⟩ := vals1 r
  cases rx
  obtain ⟨mA, J, _⟩ := ins_get I.hok ha
  obtain ⟨od, J, _⟩ := J.look
  obtain ⟨m', hF⟩ := I.fr
  have sb := (cx.sub.mono hj).in1
  refine PySem.W.repr_K sb.room.units0 hF I.ok.mod.kin J hs hf (wpAny_mono (own_run sb F cx.pas I r sp) (fun u s' q => ?_) fun _ _ z => z)
  obtain ⟨v, H', I', rv, i, rfl, q⟩ := q
  obtain ⟨t, rfl⟩ := rv
  exact ⟨.str i, H', I', ⟨_, rfl⟩, q⟩
noncomputable def ckInt : VD → Mem → Res VD
  | .d (.int i), M => gi (0 ≤ i ∧ i < 2 ^ 63) (.ok (.d (.int i)) M) .fail
  | _, _ => .fail
def ckStr : VD → Mem → Res VD
  | .d (.str s), M => .ok (.d (.str s)) M
  | _, _ => .fail
def ckBl (neg : Bool) : VD → Mem → Res VD
  | .d (.bl b), M => .ok (.d (.bl (b != neg))) M
  | _, _ => .fail
def f_own (c n : Nat) (m : List VD → Mem → Res VD) (ck : VD → Mem → Res VD) (vs : List VD) (M : Mem) : Res VD := match vs with
  | x :: r => if isC c M x && r.length + 1 == n then (m (x :: r) M).bind ck else .fail
  | [] => .fail
def CkOk (C : Cf) (E : XK) (T : V → (V → Prop) → Prop) (ck : VD → Mem → Res VD) : Prop := ∀ W H M v d (Q : VK), Ok C W H M → RepV C W v d → post C (relV C) E Q W H (ck d M) → T v fun y => Q y H
theorem ck_int : CkOk C E tInt ckInt := fun W H M v d Q ok r p => by
  unfold ckInt at p
  split at p
  · unfold gi at p
    split at p
    · rename_i h
      cases inv_int r
      exact ⟨_, rfl, h.1, h.2, post_ok p ok (.int _)⟩
    · exact p.elim
  · exact p.elim
theorem ck_str : CkOk C E tStr ckStr := fun W H M v d Q ok r p => by
  unfold ckStr at p
  split at p
  · cases inv_str r
    exact ⟨_, rfl, post_ok p ok (.str _)⟩
  · exact p.elim
theorem ck_bl {neg : Bool} : CkOk C E (tBl neg) (ckBl neg) := fun W H M v d Q ok r p => by
  unfold ckBl at p
  split at p
  · cases inv_bl r
    exact ⟨_, rfl, post_ok p ok (.bl _)⟩
  · exact p.elim
theorem own_sp {c n : Nat} {m} {T : V → (V → Prop) → Prop} {ck : VD → Mem → Res VD} (hck : CkOk C E T ck) {W : Wd} {H : Hp} {M : Mem} {xs : List V} {as : List VD} {Q : VK} (ok : Ok C W H M) (ra : RepVA C W xs as) (p : post C (relV C) E Q W H (f_own c n m ck as M)) : rOwn C c n m E T xs H Q := by
  unfold f_own at p
  split at p
  · rename_i x r
    split at p
    · rename_i h
      rw [Bool.and_eq_true] at h
      have hl : r.length + 1 = n := by simpa using h.2
      cases ra with
      | cons r1 r2 =>
        obtain ⟨a, dx, vs, rfl, h1⟩ := isC_at ok r1 h.1
        refine ⟨a, dx, _, _, rfl, h1, by rw [List.length_cons, r2.length]; exact hl, W, M, _, ok, .cons r1 r2, post_bind p fun v M1 W1 H1 y l1 ok1 ry p1 => hck W1 H1 M1 y v Q ok1 ry p1⟩
    · exact p.elim
  · exact p.elim
theorem p_own {c n : Nat} {m} {T : V → (V → Prop) → Prop} {ck : VD → Mem → Res VD} (hck : CkOk C E T ck) : CallS C E (rOwn C c n m E T) (f_own c n m ck) := fun W H M xs as Q ok ra p => own_sp hck ok ra p
theorem boot_repr : bootBuiltins "repr" = some (.builtin "repr") := by decide +kernel
theorem xb_lenO {c j : Nat} {m} {e : Expr} {es : List Expr} {ms : Mx (List VD)} {p pos : Pos} (cx : Cxx X C E CX k) (hm : X.mg "len" = none) (F : OwnOk X.prog X.w X.K X.mg X.base CX C c "__len__" j m) (ha : PXA X C E (e :: es) ms) (hj : j + 1 ≤ k := by decide) (hg : Gl X "len" := by rfl)
    (he : starEach (e :: es) X.env = (false, eval e X.env) :: starEach es X.env := by rfl) (hpl : (backTo pos (starEach es X.env)).any (·.1) = false := by rfl) : PX X C E (.Call (.Name "len" p) (e :: es) [] pos) (e_bi (f_own c 1 m ckInt) ms) :=
  x_bi (cr_lenO cx F hj) (p_own ck_int) hm boot_len ha hg (by decide) (by decide) he hpl
theorem xb_reprO {c j : Nat} {m} {e : Expr} {es : List Expr} {ms : Mx (List VD)} {p pos : Pos} (cx : Cxx X C E CX k) (hm : X.mg "repr" = none) (F : OwnOk X.prog X.w X.K X.mg X.base CX C c "__repr__" j m) (ha : PXA X C E (e :: es) ms) (hj : j + 1 ≤ k := by decide) (hg : Gl X "repr" := by rfl)
    (he : starEach (e :: es) X.env = (false, eval e X.env) :: starEach es X.env := by rfl) (hpl : (backTo pos (starEach es X.env)).any (·.1) = false := by rfl) : PX X C E (.Call (.Name "repr" p) (e :: es) [] pos) (e_bi (f_own c 1 m ckStr) ms) :=
  x_bi (cr_reprO cx F hj) (p_own ck_str) hm boot_repr ha hg (by decide) (by decide) he hpl
/-! == -/
inductive TyV (K : PySem.W.Frag) (H : Hp) : V → Value → Prop
  | non : TyV K H .non (.type "NoneType")
  | bl {b} : TyV K H (.bl b) (.type "bool")
  | int {i} : TyV K H (.int i) (.type "int")
  | str {z} : TyV K H (.str z) (.type "str")
  | lst {b xs} : SqL K H b xs → TyV K H (.ref b) (.type "list")
  | tup {b xs} : SqT K H b xs → TyV K H (.ref b) (.type "tuple")
  | ins {b D dy gs} : H b = some (.ins D dy gs) → TyV K H (.ref b) (.ref D)
theorem looks_list {M : Model} {h : Heap} {a : Addr} {xs : Array Value} (l : h.IsList a xs) : PySem.W.Looks M h (typeOf (.ref a)) (.type "list") := by
  obtain ⟨o, ho, hc, _⟩ := l
  exact hc ▸ (PySem.W.Looks.ld ho).andThen .now
theorem looks_tup {M : Model} {h : Heap} {a : Addr} {xs : Array Value} (l : h.IsTuple a xs) : PySem.W.Looks M h (typeOf (.ref a)) (.type "tuple") := by
  obtain ⟨o, ho, hc, _⟩ := l
  exact hc ▸ (PySem.W.Looks.ld ho).andThen .now
theorem TyV.looks {M : Model} {pins : List (Addr × Obj)} {σ : L2.St} {H : Hp} {s : Shared} {y : V} {u t : Value} (h : TyV X.K H y t) (I : Inv X pins σ H s) (r : RelV y u) : PySem.W.Looks M s.heap (typeOf u) t := by
  cases h with
  | non => cases r; exact .of_pure rfl
  | bl => cases r; exact .of_pure rfl
  | int => obtain ⟨t, rfl⟩ := r; exact .of_pure rfl
  | str => obtain ⟨t, rfl⟩ := r; exact .of_pure rfl
  | lst h =>
    cases r
    obtain ⟨its, _, pl, _⟩ := I.list h
    exact looks_list pl.isList
  | tup h =>
    cases r
    obtain ⟨its, _, pl, _⟩ := I.tuple h
    exact looks_tup pl
  | ins h =>
    cases r
    obtain ⟨mB, J, _⟩ := ins_get I.hok h
    obtain ⟨od, J, _⟩ := J.look
    exact J.type
/-- no type of data comes ahead of the class -/
structure NotF (K : PySem.W.Frag) (a : Addr) : Prop where
  non : PySem.W.notFirst K a (.type "NoneType") = true
  bl : PySem.W.notFirst K a (.type "bool") = true
  int : PySem.W.notFirst K a (.type "int") = true
  str : PySem.W.notFirst K a (.type "str") = true
  lst : PySem.W.notFirst K a (.type "list") = true
  tup : PySem.W.notFirst K a (.type "tuple") = true
def eqTy (c : Nat) (M : Mem) : VD → Bool
  | .d .non => true
  | .d (.bl _) => true
  | .d (.int _) => true
  | .d (.str _) => true
  | .d (.lst _) => true
  | .d (.tup _) => true
  | .d (.obj c' _) => c' == c
  | .d (.scr _) => false
  | .d (.clo _) => false
  | .d (.exn _ _) => false
  | .d (.pv _) => false
  | .adr j => match M[j]? with
    | some (.lst _) => true
    | some (.ins c' _) => c' == c
    | _ => false
theorem eqTy_ok {c : Nat} {W : Wd} {H : Hp} {M : Mem} {y : V} {b : VD} (nf : NotF C.K (C.ca c)) (ok : Ok C W H M) (r : RepV C W y b) (h : eqTy c M b = true) : ∃ t, TyV C.K H y t ∧ PySem.W.notFirst C.K (C.ca c) t = true := by
  have self : PySem.W.notFirst C.K (C.ca c) (.ref (C.ca c)) = true := by simp [PySem.W.notFirst]
  cases b with
  | d x =>
    cases x with
    | non => cases inv_non r; exact ⟨_, .non, nf.non⟩
    | bl _ => cases inv_bl r; exact ⟨_, .bl, nf.bl⟩
    | int _ => cases inv_int r; exact ⟨_, .int, nf.int⟩
    | str _ => cases inv_str r; exact ⟨_, .str, nf.str⟩
    | lst ds =>
      cases (show Rep C W.B y (.lst ds) from r) with
      | lst h1 h2 => exact ⟨_, .lst (.inl (.inl (ok.sub _ _ h1))), nf.lst⟩
    | tup ds =>
      cases (show Rep C W.B y (.tup ds) from r) with
      | tup h1 h2 => exact ⟨_, .tup (sqT_sub ok.sub h1), nf.tup⟩
    | obj c' fs =>
      have e : c' = c := by simpa [eqTy] using h
      subst e
      cases (show Rep C W.B y (.obj c' fs) from r) with
      | obj h1 h2 h3 => exact ⟨_, .ins (ok.sub _ _ h1), self⟩
    | scr _ => cases h
    | clo _ => cases h
    | exn _ _ => cases h
    | pv _ => cases h
  | adr j =>
    obtain ⟨a, rfl, ha⟩ := r
    unfold eqTy at h
    dsimp only at h
    split at h
    · rename_i e0
      obtain ⟨_, vs, h1, h2⟩ := ok.mo j a _ ha e0
      exact ⟨_, .lst (.inl (.inl h1)), nf.lst⟩
    · rename_i c' fs e0
      have e : c' = c := by simpa using h
      subst e
      obtain ⟨_, dx, vs, h1, h2, h3⟩ := ok.mo j a _ ha e0
      exact ⟨_, .ins h1, self⟩
    · cases h
def rEqO (C : Cf) (c : Nat) (m : List VD → Mem → Res VD) (E : XK) (neg : Bool) : R2 := fun x y H Q => ∃ t, TyV C.K H y t ∧ PySem.W.notFirst C.K (C.ca c) t = true ∧ rOwn C c 2 m E (tBl neg) [x, y] H Q
theorem op_eqO {c j : Nat} {m} (cx : Cxx X C E CX k) (F : OwnOk X.prog X.w X.K X.mg X.base CX C c "__eq__" j m) (hj : j ≤ k) : OpR X (compareOp .Eq) (rEqO C c m E false) := by
  intro pins s σ H x y v u Q I rx ry h
  obtain ⟨t, ht, hn, a, dx, fs, r, e, ha, _, sp⟩ := h
  cases e
  obtain ⟨f, F, hs, hf⟩ := F.ex
  rw [cx.K] at ht hn
  have hl := ht.looks (M := model X.prog X.w) I ry
  cases rx
  obtain ⟨mA, J, _⟩ := ins_get I.hok ha
  obtain ⟨od, J, _⟩ := J.look
  obtain ⟨m', hF⟩ := I.fr
  refine PySem.W.cmp_ofEq (PySem.W.cmp_K (op := .Eq) cx.hr.units0 hF I.ok.mod.kin J hl hn hs hf (wpAny_mono (own_run (us := [.ref a, u]) (vs := [.ref a, y]) (cx.sub.mono hj) F cx.pas I (show Vals [V.ref a, y] [Value.ref a, u] from .cons (show RelV (V.ref a) (Value.ref a) from rfl) (.cons ry .nil)) sp) (fun u s' q => ?_) fun _ _ z => z))
  obtain ⟨v, H', I', rv, i, rfl, q⟩ := q
  cases rv
  exact ⟨.bl (i != false), H', I', by simp only [Bool.bne_false]; exact rfl, q⟩
def f_eqO (c : Nat) (m : List VD → Mem → Res VD) (neg : Bool) (a b : VD) (M : Mem) : Res VD := if eqTy c M b then f_own c 2 m (ckBl neg) [a, b] M else .fail
theorem p_eqO {c : Nat} {m} {neg : Bool} (nf : NotF C.K (C.ca c)) : OpS C E (rEqO C c m E neg) (f_eqO c m neg) := fun W H M x y a b Q ok ra rb p => by
  unfold f_eqO at p
  split at p
  · rename_i h
    obtain ⟨t, h1, h2⟩ := eqTy_ok nf ok rb h
    exact ⟨t, h1, h2, own_sp ck_bl ok (.cons ra (.cons rb .nil)) p⟩
  · exact p.elim
end
section
variable {P : Program} {w : World} {A : Around} {E : Value → Shared → Prop} {s : Shared} {K : PySem.W.Frag} {x C L f : Addr} {h₀ : Heap} {m : Str → Option Value} {ox : Obj} {od : Option Obj} {b tb : Value}
theorem ne_run {Q : Value → Shared → Prop} (hu : A.in1.units < cLine) (X : K.In s.heap) (I : PySem.W.InstAt s.heap x ox C od) (hm : PySem.W.mroIn K C (.type "object") = some true) (he : PySem.W.findIn K (.ref C) "__eq__" = some (some (.ref f))) (hf : PySem.W.isFn K (.ref f) = true)
    (h : wpAny (model P w) A.in1 (call (.ref f) [.ref x, b]) (fun v s' => ∃ r, v = .bool r ∧ Q (.bool (!r)) s') E s) : wpAny (model P w) A (call (.builtin "object.__ne__") [.ref x, b]) Q E s := by
  refine wpAny_call (codeAny_call_builtin PySem.F.cmp_object.ne.plain PySem.F.cmpEntry_ne (PySem.W.check_slot (i := "object.__ne__") (owner := "object") (n := "__ne__") (by decide +kernel) (by decide +kernel) (I.type.andThen (PySem.W.looks_mroIn X hm)) (PySem.F.cmpArgs_ne _ _) ?_))
  unfold Builtin.«object.__ne__»
  refine wpAny_bind (m := slotArgs "__ne__" 1 _) (wpAny_pure (wpAny_bind (m := cRoomFor _ _) (wpAny_cRoomFor hu ?_)))
  refine wpAny_bind (m := callSpecialIfBound? (.ref x) (Str.ofString "__eq__") _) (PySem.W.ifBound_K X I he hf (wpAny_mono h (fun r s' hq => ?_) fun _ _ y => y))
  obtain ⟨r, rfl, hq⟩ := hq
  exact wpAny_bind (wpAny_truthy_bool (wpAny_pure hq))
/-- a special method that is object's own -/
theorem bound_obj {Q : Option Value → Shared → Prop} (X : K.In s.heap) (I : PySem.W.InstAt s.heap x ox C od) (hs : PySem.W.findIn K (.ref C) "__ne__" = some (some (.builtin "object.__ne__")))
    (h : wpAny (model P w) A (call (.builtin "object.__ne__") [.ref x, b]) (fun v => Q (some v)) E s) : wpAny (model P w) A (callSpecialIfBound? (.ref x) "__ne__" [b]) Q E s := by
  simp only [callSpecialIfBound?, bindSpecialIfBound?]
  refine wpAny_holding (wpAny_bind (wpAny_bind (wpAny_bind (I.type.here ((PySem.W.looks_findIn X hs).here (wpAny_bind (wpAny_askSetting (wpAny_ite ?_))))))))
  have fin : wpAny (model P w) A (call (.builtin "object.__ne__") ([.ref x] ++ [b]) >>= fun v => pure (some v)) Q E s := wpAny_bind (wpAny_mono h (fun v s' q => wpAny_pure q) fun _ _ q => q)
  split
  · exact wpAny_bind ((PySem.W.Looks.of_pure (PySem.F.cmp_object.ne.bind _)).here (wpAny_pure fin))
  · exact wpAny_tryCatch (wpAny_bind ((PySem.W.Looks.of_pure (PySem.F.cmp_object.ne.bind _)).here (wpAny_pure fin)))
theorem neq_K {Q : Value → Shared → Prop} (hu : A.units < cLine) (hu1 : A.in1.units < cLine) (F : Fr h₀ L s.heap m) (X₀ : K.In h₀) (I : PySem.W.InstAt s.heap x ox C od) (hb : PySem.W.Looks (model P w) s.heap (typeOf b) tb) (hn : PySem.W.notFirst K C tb = true)
    (hs : PySem.W.findIn K (.ref C) "__ne__" = some (some (.builtin "object.__ne__"))) (hm : PySem.W.mroIn K C (.type "object") = some true) (he : PySem.W.findIn K (.ref C) "__eq__" = some (some (.ref f))) (hf : PySem.W.isFn K (.ref f) = true)
    (h : wpAny (model P w) A.in1 (call (.ref f) [.ref x, b]) (fun v s' => ∃ r, v = .bool r ∧ Q (.bool (!r)) s') E s) : wpAny (model P w) A (compareOp .NotEq (.ref x) b) Q E s := by
  have X := X₀.keeps F.keep
  have one : wpAny (model P w) A (tryCompare (.ref x) (cmpInfo .NotEq).2.1 b) (fun r s' => ∃ v, r = some v ∧ Q v s') E s := by
    unfold tryCompare
    refine wpAny_bind (bound_obj X I hs (ne_run hu1 X I hm he hf (wpAny_mono h (fun v s' hv => ?_) fun _ _ e => e)))
    obtain ⟨r, rfl, q⟩ := hv
    exact ⟨r, rfl, wpAny_pure ⟨_, rfl, q⟩⟩
  refine PySem.W.cmp_ofNotEq ?_
  unfold richCompare
  simp only [oneThing_ref]
  refine wpAny_holding (wpAny_bind (wpAny_cRoomFor hu (wpAny_bind (I.type.here (wpAny_bind (hb.here ?_))))))
  split
  · rename_i q
    have e : PySem.W.subIn K tb (.ref C) = some false := by
      rcases Bool.or_eq_true_iff.mp hn with e | e
      · rw [beq_iff_eq.mp e] at q
        simp at q
      · exact beq_iff_eq.mp e
    refine wpAny_bind ((PySem.W.looks_subIn X e).here ?_)
    simp only [Bool.false_eq_true, if_false]
    refine wpAny_bind (wpAny_mono one (fun r s' z => ?_) fun _ _ e => e)
    obtain ⟨v, rfl, q⟩ := z
    exact wpAny_pure q
  · refine wpAny_bind (wpAny_pure ?_)
    simp only [Bool.false_eq_true, if_false]
    refine wpAny_bind (wpAny_mono one (fun r s' z => ?_) fun _ _ e => e)
    obtain ⟨v, rfl, q⟩ := z
    exact wpAny_pure q
end
section
variable {X : Cx} {C : Cf} {E : XK} {CX : CXT} {k : Nat}
/-- what != asks of the class -/
structure NeOk (K : PySem.W.Frag) (a : Addr) : Prop where
  ne : PySem.W.findIn K (.ref a) "__ne__" = some (some (.builtin "object.__ne__"))
  ob : PySem.W.mroIn K a (.type "object") = some true
theorem op_neO {c j : Nat} {m} (cx : Cxx X C E CX k) (F : OwnOk X.prog X.w X.K X.mg X.base CX C c "__eq__" j m) (nk : NeOk X.K (C.ca c)) (hj : j + 1 ≤ k) : OpR X (compareOp .NotEq) (rEqO C c m E true) := by
  intro pins s σ H x y v u Q I rx ry h
  obtain ⟨t, ht, hn, a, dx, fs, r, e, ha, _, sp⟩ := h
  cases e
  obtain ⟨f, F, hs, hf⟩ := F.ex
  rw [cx.K] at ht hn
  have hl := ht.looks (M := model X.prog X.w) I ry
  cases rx
  obtain ⟨mA, J, _⟩ := ins_get I.hok ha
  obtain ⟨od, J, _⟩ := J.look
  obtain ⟨m', hF⟩ := I.fr
  have sb := (cx.sub.mono hj).in1
  refine neq_K cx.hr.units0 sb.room.units0 hF I.ok.mod.kin J hl hn nk.ne nk.ob hs hf (wpAny_mono (own_run (us := [.ref a, u]) (vs := [.ref a, y]) sb F cx.pas I (show Vals [V.ref a, y] [Value.ref a, u] from .cons (show RelV (V.ref a) (Value.ref a) from rfl) (.cons ry .nil)) sp) (fun u s' q => ?_) fun _ _ z => z)
  obtain ⟨v, H', I', rv, i, rfl, q⟩ := q
  cases rv
  exact ⟨i, rfl, .bl (i != true), H', I', by simp only [Bool.bne_true]; exact rfl, q⟩
theorem x_eqO {c j : Nat} {m} {a b : Expr} {ma mb : Mx VD} {pos : Pos} (cx : Cxx X C E CX k) (F : OwnOk X.prog X.w X.K X.mg X.base CX C c "__eq__" j m) (nf : NotF X.K (C.ca c)) (ha : PX X C E a ma) (hb : PX X C E b mb) (hj : j ≤ k := by decide) : PX X C E (.Compare a [.Eq] [b] pos) (e_op (f_eqO c m false) ma mb) :=
  x_cmp (op_eqO cx F hj) (p_eqO (by rw [cx.K]; exact nf)) ha hb
theorem x_neO {c j : Nat} {m} {a b : Expr} {ma mb : Mx VD} {pos : Pos} (cx : Cxx X C E CX k) (F : OwnOk X.prog X.w X.K X.mg X.base CX C c "__eq__" j m) (nk : NeOk X.K (C.ca c)) (nf : NotF X.K (C.ca c)) (ha : PX X C E a ma) (hb : PX X C E b mb) (hj : j + 1 ≤ k := by decide) : PX X C E (.Compare a [.NotEq] [b] pos) (e_op (f_eqO c m true) ma mb) :=
  x_cmp (op_neO cx F nk hj) (p_eqO (by rw [cx.K]; exact nf)) ha hb
end
end G

namespace G
open PySem PySem.Spec PyProof.Rows L2
section
variable {X : Cx} {C : Cf} {E : XK} {CX : CXT} {k : Nat}
/-! in, not in -/
def rInO (C : Cf) (c : Nat) (m : List VD → Mem → Res VD) (E : XK) (neg : Bool) : R2 := fun x y H Q => rOwn C c 2 m E (tBl neg) [y, x] H Q
theorem op_inO {c j : Nat} {m} (cx : Cxx X C E CX k) (F : OwnOk X.prog X.w X.K X.mg X.base CX C c "__contains__" j m) (hj : j ≤ k) : OpR X (compareOp .In) (rInO C c m E false) := by
  intro pins s σ H x y v u Q I rx ry h
  obtain ⟨a, dx, fs, r, e, ha, _, sp⟩ := h
  cases e
  obtain ⟨f, F, hs, hf⟩ := F.ex
  cases ry
  obtain ⟨mA, J, _⟩ := ins_get I.hok ha
  obtain ⟨od, J, _⟩ := J.look
  obtain ⟨m', hF⟩ := I.fr
  refine PySem.W.in_K hF I.ok.mod.kin J hs hf (wpAny_mono (own_run (us := [.ref a, v]) (vs := [.ref a, x]) (cx.sub.mono hj) F cx.pas I (show Vals [V.ref a, x] [Value.ref a, v] from .cons (show RelV (V.ref a) (Value.ref a) from rfl) (.cons rx .nil)) sp) (fun u s' q => ?_) fun _ _ z => z)
  obtain ⟨v, H', I', rv, i, rfl, q⟩ := q
  cases rv
  exact wpAny_truthy_bool ⟨.bl (i != false), H', I', by simp only [Bool.bne_false]; exact rfl, q⟩
theorem op_niO {c j : Nat} {m} (cx : Cxx X C E CX k) (F : OwnOk X.prog X.w X.K X.mg X.base CX C c "__contains__" j m) (hj : j ≤ k) : OpR X (compareOp .NotIn) (rInO C c m E true) := by
  intro pins s σ H x y v u Q I rx ry h
  obtain ⟨a, dx, fs, r, e, ha, _, sp⟩ := h
  cases e
  obtain ⟨f, F, hs, hf⟩ := F.ex
  cases ry
  obtain ⟨mA, J, _⟩ := ins_get I.hok ha
  obtain ⟨od, J, _⟩ := J.look
  obtain ⟨m', hF⟩ := I.fr
  refine PySem.W.notIn_K hF I.ok.mod.kin J hs hf (wpAny_mono (own_run (us := [.ref a, v]) (vs := [.ref a, x]) (cx.sub.mono hj) F cx.pas I (show Vals [V.ref a, x] [Value.ref a, v] from .cons (show RelV (V.ref a) (Value.ref a) from rfl) (.cons rx .nil)) sp) (fun u s' q => ?_) fun _ _ z => z)
  obtain ⟨v, H', I', rv, i, rfl, q⟩ := q
  cases rv
  exact wpAny_truthy_bool ⟨.bl (i != true), H', I', by simp only [Bool.bne_true]; exact rfl, q⟩
def f_inO (c : Nat) (m : List VD → Mem → Res VD) (neg : Bool) (a b : VD) (M : Mem) : Res VD := f_own c 2 m (ckBl neg) [b, a] M
theorem p_inO {c : Nat} {m} {neg : Bool} : OpS C E (rInO C c m E neg) (f_inO c m neg) := fun W H M x y a b Q ok ra rb p => own_sp ck_bl ok (.cons rb (.cons ra .nil)) p
theorem x_inO {c j : Nat} {m} {a b : Expr} {ma mb : Mx VD} {pos : Pos} (cx : Cxx X C E CX k) (F : OwnOk X.prog X.w X.K X.mg X.base CX C c "__contains__" j m) (ha : PX X C E a ma) (hb : PX X C E b mb) (hj : j ≤ k := by decide) (hm : behindInMarks .In b = false := by with_unfolding_all rfl) : PX X C E (.Compare a [.In] [b] pos) (e_op (f_inO c m false) ma mb) := x_cmp (op_inO cx F hj) p_inO ha hb hm
theorem x_niO {c j : Nat} {m} {a b : Expr} {ma mb : Mx VD} {pos : Pos} (cx : Cxx X C E CX k) (F : OwnOk X.prog X.w X.K X.mg X.base CX C c "__contains__" j m) (ha : PX X C E a ma) (hb : PX X C E b mb) (hj : j ≤ k := by decide) (hm : behindInMarks .NotIn b = false := by with_unfolding_all rfl) : PX X C E (.Compare a [.NotIn] [b] pos) (e_op (f_inO c m true) ma mb) := x_cmp (op_niO cx F hj) p_inO ha hb hm
/-! tuple(x) -/
def f_tup : VD → Mem → Res VD
  | .d (.tup ds), M => .ok (.d (.tup ds)) M
  | a, M => match lstOf M a with
    | some ds => .ok (.d (.tup ds)) M
    | none => .fail
def e_tupO (m : Mx VD) : Mx VD := fun ρ M => (m ρ M).bind f_tup
theorem xb_tuple {e : Expr} {m : Mx VD} {p pos : Pos} (hK : C.K = X.K) (hm : X.mg "tuple" = none) (h : PX X C E e m) (hg : Gl X "tuple" := by rfl) (na : starEach [e] X.env = (false, eval e X.env) :: starEach [] X.env := by rfl) : PX X C E (.Call (.Name "tuple" p) [e] [] pos) (e_tupO m) := by
  obtain ⟨te, pe, se⟩ := h
  refine ⟨_, pe_tupleOf hg hm pe na, fun W σ H ρ M Q ok sl p => se W σ H ρ M _ ok sl (post_bind p fun v M1 W1 H1 x l1 ok1 ra p1 => ?_)⟩
  unfold f_tup at p1
  split at p1
  · rename_i ds
    cases (show Rep C W1.B x (.tup ds) from ra) with
    | tup h1 h2 => exact .inr ⟨_, _, rfl, by rw [← hK]; exact sqT_sub ok1.sub h1, post_ok p1 ok1 (Rep.tup h1 h2)⟩
  · split at p1
    · rename_i ds e
      obtain ⟨q, vs, rfl, hs, hr⟩ := lst_read ok1 ra e
      exact .inl ⟨q, vs, rfl, .inl (.inl hs), post_tup p1 ok1 hr⟩
    · exact p1.elim
theorem t_eqO {c j : Nat} {m} {a b : Expr} {ma mb : Mx VD} {pos : Pos} (cx : Cxx X C E CX k) (F : OwnOk X.prog X.w X.K X.mg X.base CX C c "__eq__" j m) (nf : NotF X.K (C.ca c)) (ha : PX X C E a ma) (hb : PX X C E b mb) (hj : j ≤ k := by decide) : PXT X C E (.Compare a [.Eq] [b] pos) (e_asB (e_op (f_eqO c m false) ma mb)) :=
  t_cmp (op_eqO cx F hj) (p_eqO (by rw [cx.K]; exact nf)) ha hb
theorem t_neO {c j : Nat} {m} {a b : Expr} {ma mb : Mx VD} {pos : Pos} (cx : Cxx X C E CX k) (F : OwnOk X.prog X.w X.K X.mg X.base CX C c "__eq__" j m) (nk : NeOk X.K (C.ca c)) (nf : NotF X.K (C.ca c)) (ha : PX X C E a ma) (hb : PX X C E b mb) (hj : j + 1 ≤ k := by decide) : PXT X C E (.Compare a [.NotEq] [b] pos) (e_asB (e_op (f_eqO c m true) ma mb)) :=
  t_cmp (op_neO cx F nk hj) (p_eqO (by rw [cx.K]; exact nf)) ha hb
theorem t_inO {c j : Nat} {m} {a b : Expr} {ma mb : Mx VD} {pos : Pos} (cx : Cxx X C E CX k) (F : OwnOk X.prog X.w X.K X.mg X.base CX C c "__contains__" j m) (ha : PX X C E a ma) (hb : PX X C E b mb) (hj : j ≤ k := by decide) (hm : behindInMarks .In b = false := by with_unfolding_all rfl) : PXT X C E (.Compare a [.In] [b] pos) (e_asB (e_op (f_inO c m false) ma mb)) := t_cmp (op_inO cx F hj) p_inO ha hb hm
theorem t_niO {c j : Nat} {m} {a b : Expr} {ma mb : Mx VD} {pos : Pos} (cx : Cxx X C E CX k) (F : OwnOk X.prog X.w X.K X.mg X.base CX C c "__contains__" j m) (ha : PX X C E a ma) (hb : PX X C E b mb) (hj : j ≤ k := by decide) (hm : behindInMarks .NotIn b = false := by with_unfolding_all rfl) : PXT X C E (.Compare a [.NotIn] [b] pos) (e_asB (e_op (f_inO c m true) ma mb)) := t_cmp (op_niO cx F hj) p_inO ha hb hm
/-! a property -/
structure PropOk (P : Program) (w : World) (K : PySem.W.Frag) (mg : Str → Option Value) (base : Heap) (CX : CXT) (C : Cf) (c : Nat) (x : Str) (j : Nat) (m : List VD → Mem → Res VD) : Prop where
  ex : ∃ f fd ps p, FnOk P w K mg base CX j f fd ps (spD C 1 m) ∧ PropOf K (C.ca c) x p f ∧ Binds K fd ps []
  cl : Cls K (C.ca c)
def e_prop (c : Nat) (m : List VD → Mem → Res VD) (mo : Mx VD) : Mx VD := fun ρ M => (mo ρ M).bind fun x M1 => if isC c M1 x then nox (m [x] M1) else .fail
theorem x_prop {c j : Nat} {m} {o : Expr} {x : Str} {mo : Mx VD} {pos : Pos} (cx : Cxx X C E CX k) (F : PropOk X.prog X.w X.K X.mg X.base CX C c x j m) (ho : PX X C E o mo) (hj : j + 1 ≤ k := by decide) (hab : attributeBase o x X.env (eval o X.env) = eval o X.env := by rfl) : PX X C E (.Attribute o x pos) (e_prop c m mo) := by
  obtain ⟨⟨f, fd, ps, p, F, hp, hb⟩, hc⟩ := F
  obtain ⟨to, po, so⟩ := ho
  refine ⟨_, pe_prop po hc hp F (cx.hr.mono hj) hb .nil (cx.pas0 X.nox rfl rfl) hab, fun W σ H ρ M Q ok sl p => ?_⟩
  refine so W σ H ρ M _ ok sl (post_bind p fun v M1 W1 H1 vv l1 ok1 rv p1 => ?_)
  split at p1
  · rename_i hi
    obtain ⟨a, dx, vs, rfl, h1⟩ := isC_at ok1 rv hi
    refine ⟨a, dx, _, rfl, h1, W1, M1, [v], ok1, .cons rv .nil, rfl, ?_⟩
    unfold nox at p1
    cases q : m [v] M1 with
    | ok v2 M2 => rw [q] at p1; exact p1
    | exc _ _ _ => rw [q] at p1; exact p1.elim
    | fail => rw [q] at p1; exact p1.elim
  · exact p1.elim
/-! a constant of a class -/
theorem x_cval {i : Int} {x f : Str} {a : Addr} {mc : Value} {u : Value} {p pos : Pos} (hm : X.mg x = some (.ref a)) (r : ClX.CRead X.K a mc) (v : ClX.CVal X.K a mc f (.int i) u) (hg : Gl X x := by rfl) (hdb : (x == ("__debug__" : Str)) = false := by decide) (hb : attributeBase (.Name x p) f X.env (eval (.Name x p) X.env) = eval (.Name x p) X.env := by rfl) : PX X C E (.Attribute (.Name x p) f pos) (e_c (.int i)) :=
  ⟨_, ClX.pe_cval (pe_glob (v := V.ref a) hg hm rfl hdb) hb, fun W σ H ρ M Q ok sl q => ⟨a, mc, .int i, u, rfl, r, v, post_ok q ok (.int _)⟩⟩
end
end G

/-! defs with defaults, with a star -/
namespace G
open PySem PySem.Spec PyProof.Rows L2
section
variable {P : Program} {w : World} {K : PySem.W.Frag} {mg : Str → Option Value} {base : Heap} {C : Cf}
theorem mk_hb {qual : Str} {scope : Scope} {bd : List Stmt} {f : Addr} {N ps : List Str} {k n : Nat} {body : Sx} (S : FnScope N ps scope) (hK : C.K = K)
    (hb : ∀ (cdv : Value) (A : Around) (outer : List PySem.Env) (s : Shared) (H : Hp) (E : XK), Cxx (cxOf CX0 P w K mg base N qual scope f cdv A outer s H E).nox C E0 CX0 k → PXSs (cxOf CX0 P w K mg base N qual scope f cdv A outer s H E).nox C E0 bd body)
    (cdv : Value) (A : Around) (outer : List PySem.Env) (s : Shared) (H : Hp) (vs : List V) (Q : VK) (E : XK) (hr : Room k (A.deeper (envOfC qual scope s.heap.objs.size f cdv))) (h : spD C n (fnM N.length body) vs H Q E) :
    ∃ t, PSs (cxOf CX0 P w K mg base N qual scope f cdv A outer s H E).nox bd t ∧ t { nx := fun _ H' => Q .non H', rt := Q } (start N vs) H := by
  obtain ⟨W, M, ds, ok, r, hl, p⟩ := h
  obtain ⟨t, pt, st⟩ := hb cdv A outer s H E ⟨hK, rfl, S.nd, PassesOwn.never, pass0, fun _ _ _ => pass0, hr, LamX.takes0⟩
  refine ⟨t, pt, st W _ H _ M _ ok (slots_start r) ?_⟩
  unfold fnM nox runF at p
  have fin : ∀ {v : VD} {M1 : Mem}, post C (relV C) E Q W H (trim M.length (.ok v M1)) → ∀ W1 H1 x, Step W H W1 H1 → Ok C W1 H1 M1 → RepV C W1 x v → Q x H1 := fun {v M1} p W1 H1 x s1 ok1 r1 => by
    unfold trim at p
    dsimp only at p
    split at p
    · rename_i hc
      rw [Bool.and_eq_true] at hc
      obtain ⟨s2, ok2⟩ := Ok.take s1 ok1 (Nat.le_of_eq ok.len) hc.2
      exact p _ _ _ s2 ok2 (r1.take hc.1)
    · exact p _ _ _ s1 ok1 r1
  cases q : body (ds.map some ++ List.replicate (N.length - ds.length) none) M with
  | nx ρ M1 =>
    rw [q] at p
    exact fun W1 H1 σ1 s1 ok1 _ => fin (v := .d .non) p W1 H1 _ s1 ok1 (show Rep C W1.B V.non D.non from .non)
  | ret v M1 =>
    rw [q] at p
    exact fin p
  | brk _ _ => rw [q] at p; exact p.elim
  | ct _ _ => rw [q] at p; exact p.elim
  | exc _ _ _ => rw [q] at p; exact p.elim
  | fail => rw [q] at p; exact p.elim
/-- a def with defaults -/
theorem fn_mkD {x qual : Str} {params : Arguments} {bd : List Stmt} {scope : Scope} {dvs : List V} {kws : List (Str × V)} {f : Addr} {fd : FuncData} {N ps : List Str} {k n : Nat} {body : Sx} (F : FunD K x qual params bd scope dvs kws f fd) (S : FnScope N ps scope) (hK : C.K = K) (hn : ps.length = n)
    (hb : ∀ (cdv : Value) (A : Around) (outer : List PySem.Env) (s : Shared) (H : Hp) (E : XK), Cxx (cxOf CX0 P w K mg base N qual scope f cdv A outer s H E).nox C E0 CX0 k → PXSs (cxOf CX0 P w K mg base N qual scope f cdv A outer s H E).nox C E0 bd body) :
    FnOk P w K mg base CX0 (k + 1) f fd ps (spD C n (fnM N.length body)) :=
  F.ok S (fun vs H Q E h => by rw [spD_len vs H Q E h, hn]) fun cdv A outer s H vs Q E hr h => by
    obtain ⟨t, pt, q⟩ := mk_hb S hK hb cdv A outer s H vs Q E hr h
    exact ⟨t, pt.nox, q⟩
/-- n values, then the rest as a tuple -/
def arS (n : Nat) (m : List VD → Mem → Res VD) : List VD → Mem → Res VD := fun ds M => if n ≤ ds.length then match dats (ds.drop n) with
  | some rest => if rest.length ≤ lim then m (ds.take n ++ [.d (.tup rest)]) M else .fail
  | none => .fail
  else .fail
theorem RepVA.takeN {W : Wd} : ∀ {vs : List V} {ds : List VD} (n : Nat), RepVA C W vs ds → RepVA C W (vs.take n) (ds.take n)
  | _, _, 0, _ => .nil
  | _, _, _ + 1, .nil => .nil
  | _, _, n + 1, .cons h r => .cons h (RepVA.takeN n r)
theorem RepVA.dropN {W : Wd} : ∀ {vs : List V} {ds : List VD} (n : Nat), RepVA C W vs ds → RepVA C W (vs.drop n) (ds.drop n)
  | _, _, 0, r => r
  | _, _, _ + 1, .nil => .nil
  | _, _, n + 1, .cons _ r => RepVA.dropN n r
theorem fn_mkS {name qual : Str} {params : Arguments} {bd : List Stmt} {scope : Scope} {f : Addr} {N ps : List Str} {pv : Str} {k n : Nat} {body : Sx} {oc dV kV doc pm cdv ct : Value} {od an : Option Addr} {osl : Array (Option Value)}
    (lk : K.lookup f = some ⟨oc, od, .func (PySem.W.fnOf name qual params bd scope dV kV doc pm an cdv ct), osl⟩) (hcd : PySem.W.codeIn K cdv qual = true) (S : FnScope N (ps ++ [pv]) scope) (hK : C.K = K) (hn : ps.length = n)
    (hbd : ∀ us rest : List Value, us.length = ps.length → bindArgs (PySem.W.fnOf name qual params bd scope dV kV doc pm an cdv ct) ⟨us ++ rest, []⟩ = (newTuple rest >>= fun t => pure (ps.zip us ++ [(pv, t)])))
    (hb : ∀ (cdv : Value) (A : Around) (outer : List PySem.Env) (s : Shared) (H : Hp) (E : XK), Cxx (cxOf CX0 P w K mg base N qual scope f cdv A outer s H E).nox C E0 CX0 k → PXSs (cxOf CX0 P w K mg base N qual scope f cdv A outer s H E).nox C E0 bd body) :
    FnR P w K mg base CX0 (k + 1) f (spP C (arS n (fnM N.length body))) :=
  (StX.fn_star (sp := spD C (n + 1) (fnM N.length body)) lk hcd S StX.cxUp_none hbd fun A outer s H vs Q E hr h => by
    obtain ⟨t, pt, q⟩ := mk_hb S hK hb cdv A outer s H vs Q E hr h
    exact ⟨t, pt.nox, q⟩).imp fun vs H Q E ⟨W, M, ds, ok, r, p⟩ => by
      unfold arS at p
      split at p
      · rename_i hl
        split at p
        · rename_i rest e
          split at p
          · rename_i hz
            have hlen := r.length
            have rr := (r.dropN n).dat e
            refine ⟨vs.take n, vs.drop n, (List.take_append_drop n vs).symm, by rw [List.length_take, hn]; omega, by rw [rr.length]; exact lim_le hz, fun q hq => ?_⟩
            obtain ⟨ok2, l⟩ := ok.new (o := .tup (vs.drop n)) hq
            refine ⟨W.put q (.tup (vs.drop n)), M, _, ok2, ((r.takeN n).mono l).append (.cons (d := .d (.tup rest)) (Rep.tup (.inl (.inl (by show upd W.B q _ q = _; rw [upd_same]))) (rr.mono l.1)) .nil), by rw [List.length_append, List.length_take]; simp; omega, post.mono (Step.new ok hq) p⟩
          · exact p.elim
        · exact p.elim
      · exact p.elim
theorem bind_star3 {B : List Value → PySem.Sem (List (Str × Value))} {p1 p2 p3 pv : Str} (h0 : ∀ a b c, B [a, b, c] = (newTuple [] >>= fun t => pure [(p1, a), (p2, b), (p3, c), (pv, t)])) (h1 : ∀ a b c r rs, B (a :: b :: c :: r :: rs) = (newTuple (r :: rs) >>= fun t => pure [(p1, a), (p2, b), (p3, c), (pv, t)])) :
    ∀ us rest : List Value, us.length = [p1, p2, p3].length → B (us ++ rest) = (newTuple rest >>= fun t => pure ([p1, p2, p3].zip us ++ [(pv, t)]))
  | [a, b, c], [], _ => h0 a b c
  | [a, b, c], r :: rs, _ => h1 a b c r rs
end
section
variable {X : Cx} {C : Cf} {E : XK} {CX : CXT} {k : Nat}
/-! static methods -/
structure StatOk (P : Program) (w : World) (K : PySem.W.Frag) (mg : Str → Option Value) (base : Heap) (CX : CXT) (C : Cf) (c : Nat) (x : Str) (j : Nat) (m : List VD → Mem → Res VD) : Prop where
  ex : ∃ f p mc, FnR P w K mg base CX j f (spP C m) ∧ ClX.CRead K (C.ca c) mc ∧ PySem.W.findCls K (.ref (C.ca c)) mc x = some (.get (.builtin "staticmethod.__get__") (.ref p) .none (.ref (C.ca c))) ∧ (∃ rest, PySem.W.recIn K p "staticmethod" = some (.ref f :: rest)) ∧ PySem.W.keepIn K (.ref f) = true
/-- a call by positional values -/
def e_callP (m : List VD → Mem → Res VD) (ms : Mx (List VD)) : Mx VD := fun ρ M => (ms ρ M).bind m
def tCallP (sp : Sp) (E : XK) (t : TA) : TE := fun σ H Q => t σ H fun vs H1 => sp vs H1 Q E
theorem sem_callP {m} {ta : TA} {ms : Mx (List VD)} (ha : SemA C E ta ms) : Sem C E (tCallP (spP C m) E ta) (e_callP m ms) := fun W σ H ρ M Q ok sl p =>
  ha W σ H ρ M _ ok sl (post_bind p fun vs M1 W1 H1 x l1 ok1 ra p1 => ⟨W1, M1, vs, ok1, ra, p1⟩)
theorem x_stat {c j : Nat} {m} {n x : Str} {e : Expr} {es : List Expr} {ms : Mx (List VD)} {p0 p pos : Pos} {pl : PySem.Sem Bool} (cx : Cxx X C E CX k) (hm : X.mg n = some (.ref (C.ca c))) (F : StatOk X.prog X.w X.K X.mg X.base CX C c x j m) (ha : PXA X C E (e :: es) ms) (hj : j ≤ k := by decide) (hg : Gl X n := by rfl) (hdb : (n == ("__debug__" : Str)) = false := by decide)
    (hst : starEach (e :: es) X.env = (false, eval e X.env) :: starEach es X.env := by rfl) (hpl : (backTo pos (starEach es X.env)).any (·.1) = false := by rfl)
    (ht : eval (.Call (.Attribute (.Name n p0) x p) (e :: es) [] pos) X.env = (do
      let ov ← eval (.Name n p0) X.env
      standAt p.atName
      let (f, first) ← holding [ov] (getMethod ov x pl)
      callWith pos f first (backTo pos (starEach (e :: es) X.env)) (backToKw pos (keywordEach [] X.env))) := by rfl) :
    PX X C E (.Call (.Attribute (.Name n p0) x p) (e :: es) [] pos) (e_callP m ms) := by
  obtain ⟨f, p1, mc, F, hr, hat, ⟨rest, hrc⟩, hkp⟩ := F.ex
  obtain ⟨ta, pa, sa⟩ := ha
  refine ⟨tCallP (spP C m) E ta, ⟨fun pins s σ H Q I h => ?_⟩, sem_callP sa⟩
  refine PySem.W.methodCall_KW (pl := pl) (thn ((pe_glob (pos := p0) (v := V.ref (C.ca c)) hg hm rfl hdb).run pins s σ H (fun v H1 => v = V.ref (C.ca c) ∧ H1 = H) I ⟨rfl, rfl⟩) fun u s1 ⟨y, H1, I1, ry, e1, e2⟩ => ?_) ht
  subst e1 e2
  obtain rfl : u = Value.ref (C.ca c) := ry
  refine PySem.W.method_cls I1.kIn hr.ga (PySem.W.cls_bind I1.kIn hr.rd hat (wpAny_call (PySem.W.sm_get (s := { s1 with toks := s1.toks + 1 }) I1.kIn hrc (PySem.W.handed_on rfl ?_))))
  have I2 : Inv X pins σ H1 { s1 with toks := s1.toks + 1 } := I1.tok _
  exact PySem.W.callWith_K (first := []) (h₀ := X.base) I2.ok.mod.kin hkp (thn (pa.run pos pins _ σ H1 _ I2 h) fun us s3 ⟨vs, H2, I3, rv, q2⟩ => ⟨I3.kIn, wpAny_call (run_fnR (us := us) (vs := vs) F (cx.hr.mono hj) cx.pas I3 rv q2)⟩) hst hpl
/-- x(e, ..), x a def of the module, by its positional promise -/
structure CalOk (P : Program) (w : World) (K : PySem.W.Frag) (mg : Str → Option Value) (base : Heap) (CX : CXT) (C : Cf) (x : Str) (j : Nat) (m : List VD → Mem → Res VD) : Prop where
  ex : ∃ f, FnR P w K mg base CX j f (spP C m) ∧ mg x = some (.ref f) ∧ PySem.W.keepIn K (.ref f) = true
theorem x_callP {j : Nat} {m} {x : Str} {e : Expr} {es : List Expr} {ms : Mx (List VD)} {p pos : Pos} (cx : Cxx X C E CX k) (F : CalOk X.prog X.w X.K X.mg X.base CX C x j m) (ha : PXA X C E (e :: es) ms) (hj : j ≤ k := by decide) (hg : Gl X x := by rfl)
    (hdb : (x == ("__debug__" : Str)) = false := by decide) (he : starEach (e :: es) X.env = (false, eval e X.env) :: starEach es X.env := by rfl) (hpl : (backTo pos (starEach es X.env)).any (·.1) = false := by rfl) : PX X C E (.Call (.Name x p) (e :: es) [] pos) (e_callP m ms) := by
  obtain ⟨f, F, hm, hk⟩ := F.ex
  obtain ⟨ta, pa, sa⟩ := ha
  refine ⟨tCallP (spP C m) E ta, ⟨fun pins s σ H Q I h => ?_⟩, sem_callP sa⟩
  refine wpAny_Call_Name_kw (ld_glob I hg hm ?_ hdb)
  exact PySem.W.callWith_K (h₀ := X.base) I.ok.mod.kin hk (thn (pa.run pos pins s σ H _ I h) fun us s1 ⟨vs, H1, I1, r, q⟩ => ⟨I1.kIn, wpAny_call (run_fnR (us := us) (vs := vs) F (cx.hr.mono hj) cx.pas I1 r q)⟩) he hpl
end
end G

/-! starred arguments -/
namespace G
open PySem PySem.Spec PyProof.Rows L2
section
variable {X : Cx} {C : Cf} {E : XK} {CX : CXT} {k : Nat}
def a_star (a : Mx VD) (r : Mx (List VD)) : Mx (List VD) := fun ρ M => (a ρ M).bind fun v M1 => match seqOf M1 v with
  | some ds => (r ρ M1).bind fun vs M2 => .ok (ds.map .d ++ vs) M2
  | none => .fail
theorem xa_star {e : Expr} {es : List Expr} {m : Mx VD} {ms : Mx (List VD)} {p : Pos} (hK : C.K = X.K) (h : PX X C E e m) (hr : PXA X C E es ms) (hs : starEach (.Starred e p :: es) X.env = (true, eval e X.env) :: starEach es X.env := by rfl) : PXA X C E (.Starred e p :: es) (a_star m ms) := by
  obtain ⟨te, pe, se⟩ := h
  obtain ⟨ta, pa, sa⟩ := hr
  refine ⟨_, StX.pa_star pe pa hs, fun W σ H ρ M Q ok sl p => ?_⟩
  refine se W σ H ρ M _ ok sl (post_bind p fun v M1 W1 H1 x l1 ok1 ra p1 => ?_)
  split at p1
  · rename_i ds e1
    obtain ⟨q, vs, rfl, hs, hr⟩ := seq_read ok1 ra e1
    rw [hK] at hs
    exact ⟨q, vs, rfl, hs.symm, sa W1 σ H1 ρ M1 _ ok1 (sl.mono l1.le) (post_bind p1 fun ws M2 W2 H2 y l2 ok2 rw p2 => p2 _ _ _ (Step.refl _ _) ok2 ((repA_d (hr.mono l2.le.1)).append rw))⟩
  · exact p1.elim
theorem x_callS {j : Nat} {m} {x : Str} {e : Expr} {es : List Expr} {ms : Mx (List VD)} {p pos : Pos} (cx : Cxx X C E CX k) (F : CalOk X.prog X.w X.K X.mg X.base CX C x j m) (ha : PXA X C E (e :: es) ms) (hj : j ≤ k := by decide) (hg : Gl X x := by rfl)
    (hdb : (x == ("__debug__" : Str)) = false := by decide) (he : starEach (e :: es) X.env = (false, eval e X.env) :: starEach es X.env := by rfl) (hst : (backTo pos (starEach es X.env)).any (·.1) = true := by rfl) : PX X C E (.Call (.Name x p) (e :: es) [] pos) (e_callP m ms) := by
  obtain ⟨f, F, hm, hk⟩ := F.ex
  obtain ⟨ta, pa, sa⟩ := ha
  refine ⟨tCallP (spP C m) E ta, ⟨fun pins s σ H Q I h => ?_⟩, sem_callP sa⟩
  refine wpAny_Call_Name_kw (ld_glob I hg hm ?_ hdb)
  exact PySem.W.callWith_S2 (h₀ := X.base) I.ok.mod.kin hk (thn (pa.run pos pins s σ H _ I h) fun us s1 ⟨vs, H1, I1, r, q⟩ => ⟨I1.kIn, wpAny_call (run_fnR (us := us) (vs := vs) F (cx.hr.mono hj) cx.pas I1 r q)⟩) he hst
theorem x_makeS {c kf j : Nat} {m} {x : Str} {e : Expr} {es : List Expr} {ms : Mx (List VD)} {p pos : Pos} (cx : Cxx X C E CX k) (F : MakeOk X.prog X.w X.K X.mg X.base CX C c x j m) (hk : (C.nm c).length = kf) (ha : PXA X C E (e :: es) ms) (hj : j + 1 ≤ k := by decide) (hg : Gl X x := by rfl)
    (hdb : (x == ("__debug__" : Str)) = false := by decide) (he : starEach (e :: es) X.env = (false, eval e X.env) :: starEach es X.env := by rfl) (hst : (backTo pos (starEach es X.env)).any (·.1) = true := by rfl) :
    PX X C E (.Call (.Name x p) (e :: es) [] pos) (e_make c kf m ms) := by
  obtain ⟨⟨f, F, M0⟩, hm⟩ := F
  obtain ⟨ta, pa, sa⟩ := ha
  refine ⟨StX.tMakeR (C.ca c) (spP C m) E ta, ⟨fun pins s σ H Q I h => ?_⟩, fun W σ H ρ M Q ok sl p => ?_⟩
  · refine wpAny_Call_Name_kw (ld_glob I hg hm ?_ hdb)
    exact PySem.W.callWith_S2 (h₀ := X.base) I.ok.mod.kin M0.kp (thn (pa.run pos pins s σ H _ I h) fun us s1 ⟨vs, H1, I1, r, q⟩ => ⟨I1.kIn, StX.run_makeR M0 F (cx.hr.mono hj) cx.pas I1 r q⟩) he hst
  · refine sa W σ H ρ M _ ok sl (post_bind p fun vs M1 W1 H1 x l1 ok1 ra p1 => ?_)
    refine sem_mkI ok1 ra p1 fun W2 H2 M2 y s2 ok2 hy p2 => ?_
    cases q : frzI c kf M1.length M2 with
    | fail => rw [q] at p2; exact p2.elim
    | exc _ _ _ =>
      unfold frzI at q
      repeat (first | cases q | split at q)
    | ok d M3 =>
      rw [q] at p2
      obtain ⟨W3, s3, ok3, r3⟩ := frzI_ok hk ok2 hy q
      exact p2 _ _ _ s3 ok3 r3
end
end G

/-! f-strings, str(..) -/
namespace G
open PySem PySem.Spec PyProof.Rows L2
/-- an int's figures -/
def itoa (i : Int) : List Nat := (Str.ofString (toString i)).cps.toList
theorem enc_itoa (i : Int) : enc (itoa i) = Str.ofString (toString i) := by
  unfold enc itoa
  rw [Array.toArray_toList]
section
variable {X : Cx} {C : Cf} {E : XK} {CX : CXT} {k : Nat}
noncomputable def f_fmt : VD → Mem → Res VD
  | .d (.str s), M => if s.length ≤ lim then .ok (.d (.str s)) M else .fail
  | .d (.int i), M => gi (i.natAbs.log2 < 1920) (.ok (.d (.str (itoa i))) M) .fail
  | _, _ => .fail
noncomputable def e_fmt (m : Mx VD) : Mx VD := fun ρ M => (m ρ M).bind f_fmt
theorem x_fmt {e : Expr} {m : Mx VD} {pos : Pos} (h : PX X C E e m) : PX X C E (.FormattedValue e (-1) none pos) (e_fmt m) := by
  obtain ⟨te, pe, se⟩ := h
  refine ⟨_, pe_fmt pe, fun W σ H ρ M Q ok sl p => se W σ H ρ M _ ok sl (post_bind p fun v M1 W1 H1 x l1 ok1 ra p1 => ?_)⟩
  unfold f_fmt at p1
  split at p1
  · split at p1
    · rename_i h
      cases inv_str ra
      exact .inl ⟨_, rfl, by rw [enc_len]; exact lim_le h, post_ok p1 ok1 (.str _)⟩
    · exact p1.elim
  · unfold gi at p1
    split at p1
    · rename_i i h
      cases inv_int ra
      refine .inr ⟨_, rfl, h, ?_⟩
      rw [← enc_itoa]
      exact post_ok p1 ok1 (.str _)
    · exact p1.elim
  · exact p1.elim
def relTx : Wd → Str → List Nat → Prop := fun _ x y => x = enc y
/-- the parts of an f-string -/
structure PXJ (X : Cx) (C : Cf) (E : XK) (es : List Expr) (mj : List Nat → Mx (List Nat)) : Prop where
  ex : ∃ ts, PJ X es ts ∧ ∀ W σ H ρ M acc Q, Ok C W H M → Slots C W σ ρ → post C relTx E Q W H (mj acc ρ M) → tJs ts (enc acc) σ H Q
def j_nil : List Nat → Mx (List Nat) := fun acc _ M => .ok acc M
def j_cons (m : Mx VD) (mj : List Nat → Mx (List Nat)) : List Nat → Mx (List Nat) := fun acc ρ M => (m ρ M).bind fun v M1 => match v with
  | .d (.str s) => if acc.length + s.length ≤ lim then mj (acc ++ s) ρ M1 else .fail
  | _ => .fail
theorem xj_nil : PXJ X C E [] j_nil := ⟨[], .nil, fun W σ H ρ M acc Q ok sl p => p W H _ (Step.refl _ _) ok rfl⟩
theorem xj_cons {e : Expr} {es : List Expr} {m : Mx VD} {mj} (h : PX X C E e m) (hr : PXJ X C E es mj) : PXJ X C E (e :: es) (j_cons m mj) := by
  obtain ⟨te, pe, se⟩ := h
  obtain ⟨ts, pj, sj⟩ := hr
  refine ⟨te :: ts, .cons pe pj, fun W σ H ρ M acc Q ok sl p => ?_⟩
  refine se W σ H ρ M _ ok sl (post_bind p fun v M1 W1 H1 x l1 ok1 ra p1 => ?_)
  split at p1
  · split at p1
    · rename_i s h
      cases inv_str ra
      refine ⟨_, rfl, ?_, ?_⟩
      · rw [enc_app, enc_len, List.length_append]
        exact lim_le h
      · rw [enc_app]
        exact sj W1 σ H1 ρ M1 _ Q ok1 (sl.mono l1.le) p1
    · exact p1.elim
  · exact p1.elim
def e_fstr (mj : List Nat → Mx (List Nat)) : Mx VD := fun ρ M => (mj [] ρ M).bind fun s M1 => .ok (.d (.str s)) M1
theorem x_fstr {a b : Expr} {es : List Expr} {mj} {pos : Pos} (h : PXJ X C E (a :: b :: es) mj) : PX X C E (.JoinedStr (a :: b :: es) pos) (e_fstr mj) := by
  obtain ⟨ts, pj, sj⟩ := h
  refine ⟨_, pe_joined pj, fun W σ H ρ M Q ok sl p => ?_⟩
  refine sj W σ H ρ M [] _ ok sl (post_bind p fun s M1 W1 H1 x l1 ok1 ra p1 => ?_)
  cases ra
  exact post_ok p1 ok1 (.str s)
theorem boot_str : bootBuiltins "str" = some (.type "str") := by decide +kernel
/-- str(int) -/
noncomputable def f_str : List VD → Mem → Res VD
  | [.d (.int i)], M => gi (i.natAbs.log2 < 1920) (.ok (.d (.str (itoa i))) M) .fail
  | _, _ => .fail
theorem p_str : CallS C E (fun xs H Q => ∃ i, xs = [.int i] ∧ i.natAbs.log2 < 1920 ∧ Q (.str (toString i)) H) f_str := fun W H M xs as Q ok ra p => by
  unfold f_str at p
  split at p
  · obtain ⟨x, rfl, r⟩ := ra.one
    cases inv_int r
    unfold gi at p
    split at p
    · rename_i i h
      refine ⟨_, rfl, h, ?_⟩
      rw [← enc_itoa]
      exact post_ok p ok (.str _)
    · exact p.elim
  · exact p.elim
theorem xb_str {e : Expr} {es : List Expr} {ms : Mx (List VD)} {p pos : Pos} (hm : X.mg "str" = none) (ha : PXA X C E (e :: es) ms) (hg : Gl X "str" := by rfl) (he : starEach (e :: es) X.env = (false, eval e X.env) :: starEach es X.env := by rfl) (hpl : (backTo pos (starEach es X.env)).any (·.1) = false := by rfl) : PX X C E (.Call (.Name "str" p) (e :: es) [] pos) (e_bi f_str ms) :=
  x_ty call_str_int p_str hm boot_str ha hg (by decide) (by decide) he hpl
end
end G

/-! enumerate(tuple) -/
namespace G
open PySem PySem.Spec PyProof.Rows L2
theorem meets_enum1 {v : Value} {o : Obj} {H : Heap → Prop} (B : Begins v o H) :
    Meets (Builtin.«enumerate.__new__» ⟨[.type "enumerate", v], []⟩) (fun _ R s => H s.heap ∧
      R (.ok (.ret (.ref (s.heap.push o).objs.size))) { s with heap := (s.heap.push o).push { cls := .type "enumerate", data := .fields #[.none, .bool false, .ref s.heap.objs.size, rawInt 0, .none, .none] } }) :=
  .of_wp fun prog w A R s h => by
    obtain ⟨hp, g, d, tk, os⟩ := s
    obtain ⟨h1, h⟩ := h
    have hsub := sub_enumerate
    have q1 : ∀ {A' : Around} {E : Value → Shared → Prop} {Q : Value → Shared → Prop}, Q (.ref hp.objs.size) ⟨hp.push o, g, d, tk, os⟩ → wpAny (model prog w) A' (pyIter v) Q E ⟨hp, g, d, tk, os⟩ := fun q => B.iter prog w _ _ ⟨hp, g, d, tk, os⟩ _ h1 q
    wp_walk using q1
    refine wpAny_stack_any fun st => wpAny_pure ?_
    split
    · rename_i c _ _ _ _ _
      cases (c == Value.type "enumerate") <;> (wp_walk using q1; exact ⟨_, rfl, h⟩)
    · wp_walk using q1
      exact ⟨_, rfl, h⟩
section
variable {prog : Program} {w : World} {A : Around} {E : Value → Shared → Prop} {s : Shared}
theorem call_enum_tup {l : Addr} {items : Array Value} {Q : Value → Shared → Prop} (hL : s.heap.IsTuple l items)
    (h : ∀ h', IsEnum h' (s.heap.objs.size + 1) s.heap.objs.size 0 .none → h'.get? s.heap.objs.size = some { cls := .type "tuple_iterator", data := .fields #[.ref l, .int 0 0] } → h'.objs.size = s.heap.objs.size + 2 → (∀ b o, s.heap.get? b = some o → h'.get? b = some o) → Q (.ref (s.heap.objs.size + 1)) { s with heap := h' }) :
    wpAny (model prog w) A (call (.type "enumerate") [.ref l]) Q E s := by
  refine callType_new F.called_enumerate (by decide) (F.typeCall_enumerate_1 _) (F.newCall_enumerate_1 _) (fun obj => F.args_object_init_2 obj _) F.entry_enumerate_new (meets_enum1 (begins_tuple l items)) ⟨hL, ?_⟩
  have hz : (s.heap.push { cls := .type "tuple_iterator", data := .fields #[.ref l, .int 0 0] }).objs.size = s.heap.objs.size + 1 := Heap.size_push ..
  have he := Heap.get?_push_size (s.heap.push { cls := .type "tuple_iterator", data := .fields #[.ref l, .int 0 0] }) (o := { cls := .type "enumerate", data := .fields #[.none, .bool false, .ref s.heap.objs.size, rawInt 0, .none, .none] }) rfl
  rw [hz] at he
  show _ ∧ _
  rw [hz]
  exact ⟨⟨_, he, rfl⟩, h _ he (Heap.get?_push_of_some _ (Heap.get?_push_size _ rfl)) (by rw [Heap.size_push, hz]) fun b o x => Heap.get?_push_of_some _ (Heap.get?_push_of_some _ x)⟩
end
section
variable {prog : Program} {w : World} {A : Around} {E : Value → Shared → Prop} {s : Shared}
theorem wpAny_pyNext_enum_endU {e it a : Addr} {items : Array Value} {k : Nat} {i : Int} {old : Value} {Q : Option Value → Shared → Prop} (hh : A.handled = none)
    (he : IsEnum s.heap e it i old) (hit : s.heap.IsTupleIter it a k) (ht : s.heap.IsTuple a items) (hx : items[k]? = none)
    (hQ : ∀ h', Heap.ExtBut it s.heap h' → Q none { s with heap := h' }) : wpAny (model prog w) A (pyNext (.ref e)) Q E s := by
  have hT : s.TypeIs (.ref e) "enumerate" := ⟨_, he, rfl⟩
  unfold pyNext
  refine wpAny_bind (wpAny_attempt (wpAny_callSpecial?_slot (name := Str.ofString "__next__") hT F.slot_enumerate_next
    (wpAny_call_entry F.slot_enumerate_next hT F.entry_enumerate_next ?_ (F.args_enumerate_next_1 _))))
  show wpAny _ _ (field (.ref e) 2 >>= _) _ _ _
  refine wpAny_bind (wpAny_field he rfl (x := .ref it) rfl ?_)
  refine wpAny_bind (wpAny_nextOf_tuple_end hh hit ht hx fun h' x he' hx' => ?_)
  obtain ⟨o, ho, hc⟩ := hx'
  refine wpAny_bind (wpAny_isInstance (T := "StopIteration") (b := true) ⟨o, ho, hc⟩ isSubtype_stop ?_)
  exact wpAny_pure (hQ _ he')
end
/-- the tuple at a, each item in a new pair -/
def ItU (K : PySem.W.Frag) (a : Addr) : It :=
  ⟨fun i H => ∃ (xs : List V) (x : V), SqT K H a xs ∧ xs[i]? = some x, fun i H v H' => ∃ T x, v = .ref T ∧ H T = none ∧ H' = upd H T (.tup [.int (i : Nat), x]) ∧ ∀ xs, SqT K H a xs → xs[i]? = some x, fun i H => ∃ xs : List V, SqT K H a xs ∧ xs.length ≤ i⟩
theorem turn_enumU {P : Program} {w : World} {K : PySem.W.Frag} {elts : List Expr} {kk : Nat} {tpos : Pos} (a e it : Addr) :
    Turn P w K (.Tuple elts kk tpos) (ItU K a) [e, it] e (fun i h => (∃ old, IsEnum h e it ((i : Nat) : Int) old) ∧ h.IsTupleIter it a i ∧ e ≠ it ∧ a ≠ e ∧ a ≠ it) where
  mem := by simp
  obj := fun i h st b hb => by
    obtain ⟨⟨old, he⟩, ⟨o, ho, hc, hd⟩, _⟩ := st
    have e' : b = e ∨ b = it := by simpa using hb
    rcases e' with z | z
    · rw [z]; exact ⟨_, he, fun v q => nomatch q⟩
    · rw [z]; exact ⟨o, ho, fun v q => by rw [hd] at q; cases q⟩
  keep := fun i h h' st k => let ⟨⟨old, he⟩, hi, hne⟩ := st; ⟨⟨old, k e (by simp) _ he⟩, hi.at fun o q => k it (by simp) o q, hne⟩
  item := by
    intro X hP hw hK hc i pins s σ H E I hf st hg
    subst hP hw hK
    obtain ⟨⟨old, he⟩, hit, hne, hae, hai⟩ := st
    obtain ⟨xs, x, hq, hx⟩ := hg
    obtain ⟨its, rv, p, hz⟩ := I.tuple hq
    obtain ⟨u, hu, ru⟩ := rv.get hx
    have hel : e < s.heap.objs.size := Heap.lt_size he
    have hil : it < s.heap.objs.size := by obtain ⟨_, q, _⟩ := hit; exact Heap.lt_size q
    have hp : s.heap.IsTuple a its.toArray := p
    have hh : X.A.in1.handled = none := I.ok.hd hc
    refine wpAny_pyNext_enum_itemD (Draws.tuple hh it a hai its.toArray) he ⟨hit, hp⟩ (by obtain ⟨hlt, _⟩ := List.getElem?_eq_some_iff.1 hu; simpa using hlt) hne (by simp [Ne.symm hae, hne]) fun x' h' tk hP ho hst' hT hsz hk => ?_
    obtain rfl : x' = u := by simpa [hu] using hP.symm
    refine ⟨_, rfl, wpAny_letOwnedTupleGo_enum (s := { s with heap := h', toks := tk + 1 }) ho fun h'' he' sb => ?_⟩
    have hT2 : h''.get? s.heap.objs.size = some { cls := .type "tuple", data := .seq #[.int i tk, x'] } := (sb.2 _ (Nat.ne_of_gt hel)).trans hT
    have new : ObjOk X.prog X.w (upd H s.heap.objs.size (.tup [.int (i : Nat), x])) h'' s.heap.objs.size (.tup [.int (i : Nat), x]) :=
      ⟨by show 2 ≤ sizeLine; decide, [.int i tk, x'], .cons ⟨_, rfl⟩ (.cons ru .nil), ⟨_, hT2, rfl, _, rfl⟩⟩
    have I1 : Inv X pins σ (upd H s.heap.objs.size (.tup [.int (i : Nat), x])) { s with heap := h'', toks := tk + 1 } :=
      I.turnedNew (ch := [e, it]) (fun b ob hb q => (sb.2 b (fun z => hb (by simp [z]))).trans (hk b ob (fun z => hb (by simp [z])) (fun z => hb (by simp [z])) q)) hf (Nat.le_refl _) new
    refine ⟨.ref s.heap.objs.size, _, I1, rfl, ⟨_, x, rfl, I.hok.fresh (Nat.le_refl _), rfl, fun ys hy => by rw [I.tuple_inj hy hq]; exact hx⟩, ⟨⟨x', ?_⟩, hst'.1.at fun o q => (sb.2 it (Ne.symm hne)).trans q, hne, hae, hai⟩, fun b hb => ?_⟩
    · have e1 : ((i + 1 : Nat) : Int) = (i : Int) + 1 := by omega
      rw [e1]; exact he'
    · have hb' : b < s.heap.objs.size := by
        have e' : b = e ∨ b = it := by simpa using hb
        rcases e' with z | z
        · rw [z]; exact hel
        · rw [z]; exact hil
      rw [upd_ne (Nat.ne_of_lt hb')]
      exact (hf b hb).1
  done := by
    intro X hP hw hK hc i pins s σ H E I hf st hg
    subst hP hw hK
    obtain ⟨⟨old, he⟩, hit, hne, hae, hai⟩ := st
    obtain ⟨xs, hq, hx⟩ := hg
    obtain ⟨its, rv, p, hz⟩ := I.tuple hq
    obtain ⟨f0, f1, f2, f3, f4, f5⟩ := hf it (by simp)
    have hl := rv.length
    exact wpAny_pyNext_enum_endU (I.ok.hd hc) he hit (show s.heap.IsTuple a its.toArray from p) (by simp; omega) fun h' eb => ⟨rfl, I.turned (t' := s.toks) (fun b o hb q => eb b o hb q) f0 f1 f3 f4 f5⟩
  self := fun A i s Q E st h => let ⟨⟨_, he⟩, _⟩ := st; wpAny_pyIter_enum he h
def iEnumU (K : PySem.W.Frag) (ta : TA) : TI := fun σ H R => ta σ H fun vs H1 => ∃ a xs, vs = [.ref a] ∧ SqT K H1 a xs ∧ R (ItU K a) H1
theorem pi_enumU {X : Cx} {e : Expr} {ta : TA} {p pos tpos : Pos} {elts : List Expr} {kk : Nat} (hg : Gl X "enumerate") (hm : X.mg "enumerate" = none) (ha : PA X [e] ta) (hs : starEach [e] X.env = [(false, eval e X.env)] := by rfl) :
    PI X (.Tuple elts kk tpos) (.Call (.Name "enumerate" p) [e] [] pos) (iEnumU X.K ta) := by
  refine ⟨fun pins s σ H R I h => ?_⟩
  refine Call_ (ld_blt I hg hm boot_enumerate (PyProof.Rows.callWith_type1 (thn (ha.run pos pins s σ H _ I h) fun us s1 ⟨vs, H1, I1, r1, q1⟩ => ?_) hs rfl))
  obtain ⟨a, xs, ex, hq, q⟩ := q1
  subst ex
  cases r1 with
  | cons r rr =>
    cases rr
    cases r
    obtain ⟨its, rv, p', hz⟩ := I1.tuple hq
    have hal : a < s1.heap.objs.size := by obtain ⟨_, q', _⟩ := p'; exact Heap.lt_size q'
    refine call_enum_tup (items := its.toArray) p' fun h' he hit hsz hk => wpAny_pyIter_enum he ?_
    have I2 : Inv X pins σ H1 { s1 with heap := h' } := I1.kept (t' := s1.toks) hk
    refine ⟨s1.heap.objs.size + 1, [s1.heap.objs.size + 1, s1.heap.objs.size], _, _, H1, rfl, I2, turn_enumU a (s1.heap.objs.size + 1) s1.heap.objs.size, ⟨⟨.none, he⟩, ⟨_, hit, rfl, rfl⟩, Nat.succ_ne_self _, Nat.ne_of_lt (Nat.lt_succ_of_lt hal), Nat.ne_of_lt hal⟩, fun b hb => ?_, q⟩
    have e' : b = s1.heap.objs.size + 1 ∨ b = s1.heap.objs.size := by simpa using hb
    have hle : s1.heap.objs.size ≤ b := by
      rcases e' with z | z
      · rw [z]; exact Nat.le_add_right _ _
      · rw [z]; exact Nat.le_refl _
    exact I1.fpOk hle (I1.hok.fresh hle)
section
variable {X : Cx} {C : Cf} {E : XK}
theorem walks_enumU {W : Wd} {a : Addr} {vs : List V} {ds : List D} (h : SqT C.K W.B a vs) (r : RepA C W.B vs ds) : Walks C (ItU C.K a) (enumL ds 0) W where
  go := fun i W2 H M l ok hi => by
    rw [enumL_len] at hi
    obtain ⟨d, hd⟩ : ∃ d, ds[i]? = some d := ⟨ds[i], List.getElem?_eq_getElem hi⟩
    obtain ⟨v, hv, _⟩ := r.get hd
    exact ⟨vs, v, sqT_sub ok.sub (sqT_sub l.1 h), hv⟩
  yld := fun i W2 H M x H' l ok hi y => by
    rw [enumL_len] at hi
    obtain ⟨d, hd⟩ : ∃ d, ds[i]? = some d := ⟨ds[i], List.getElem?_eq_getElem hi⟩
    obtain ⟨v, hv, rv⟩ := r.get hd
    obtain ⟨T, z, rfl, hT, rfl, y⟩ := y
    have e2 := y vs (sqT_sub ok.sub (sqT_sub l.1 h))
    rw [hv] at e2
    cases e2
    obtain ⟨ok', l'⟩ := ok.new (o := .tup [.int (i : Nat), v]) hT
    refine ⟨_, .tup [.int ((0 + i : Nat) : Int), d], by rw [enumL_get, hd] <;> rfl, Step.new ok hT, ok', ?_⟩
    rw [Nat.zero_add]
    exact rep_tup2 (by show upd W2.B T _ T = _; rw [upd_same]) (.int _) (rv.mono (l.trans l').1)
  stop := fun i W2 H M l ok hi => ⟨vs, sqT_sub ok.sub (sqT_sub l.1 h), by rw [r.length]; rw [enumL_len] at hi; exact hi⟩
/-- enumerate over a tuple -/
def i_enumU (ms : Mx (List VD)) : Mx (List D) := fun ρ M => (ms ρ M).bind fun vs M1 => match vs with
  | [.d (.tup ds)] => .ok (enumL ds 0) M1
  | _ => .fail
theorem xi_enumU {e : Expr} {ms : Mx (List VD)} {elts : List Expr} {kk : Nat} {tpos p pos : Pos} (hK : C.K = X.K) (hm : X.mg "enumerate" = none) (h : PXA X C E [e] ms) (hg : Gl X "enumerate" := by rfl) (hs : starEach [e] X.env = [(false, eval e X.env)] := by rfl) : PXI X C E (.Tuple elts kk tpos) (.Call (.Name "enumerate" p) [e] [] pos) (i_enumU ms) := by
  obtain ⟨ta, pa, sa⟩ := h
  refine ⟨_, pi_enumU hg hm pa hs, fun W σ H ρ M R ok sl p => ?_⟩
  refine sa W σ H ρ M _ ok sl (post_bind p fun a M1 W1 H1 x l1 ok1 ra p1 => ?_)
  split at p1
  · rename_i _ ds
    obtain ⟨y, rfl, r⟩ := ra.one
    cases (show Rep C W1.B y (.tup ds) from r) with
    | tup h1 h2 =>
      rw [← hK]
      exact ⟨_, _, rfl, sqT_sub ok1.sub h1, post_ok p1 ok1 (walks_enumU h1 h2)⟩
  · exact p1.elim
/-- enumerate over a list or a tuple -/
def enumI (vs : List VD) (M : Mem) : Res (List D) := match vs with
  | [.d (.lst ds)] => .ok (enumL ds 0) M
  | [.d (.tup ds)] => .ok (enumL ds 0) M
  | _ => .fail
def i_enumA (ms : Mx (List VD)) : Mx (List D) := fun ρ M => (ms ρ M).bind enumI
theorem xi_enumA {e : Expr} {ms : Mx (List VD)} {elts : List Expr} {kk : Nat} {tpos p pos : Pos} (hK : C.K = X.K) (hm : X.mg "enumerate" = none) (h : PXA X C E [e] ms) (hg : Gl X "enumerate" := by rfl) (hs : starEach [e] X.env = [(false, eval e X.env)] := by rfl) : PXI X C E (.Tuple elts kk tpos) (.Call (.Name "enumerate" p) [e] [] pos) (i_enumA ms) := by
  obtain ⟨w1, p1, s1⟩ := xi_enum (elts := elts) (kk := kk) (tpos := tpos) (p := p) (pos := pos) hK hm h hg hs
  obtain ⟨w2, p2, s2⟩ := xi_enumU (elts := elts) (kk := kk) (tpos := tpos) (p := p) (pos := pos) hK hm h hg hs
  refine ⟨_, PI.or p1 p2, fun W σ H ρ M R ok sl p => ?_⟩
  unfold i_enumA at p
  cases q : ms ρ M with
  | fail =>
    rw [q] at p
    exact p.elim
  | exc c fs M1 =>
    rw [q] at p
    refine .inl (s1 W σ H ρ M R ok sl ?_)
    unfold i_enum
    rw [q]
    exact p
  | ok vs M1 =>
    rw [q] at p
    have p : post C (relI C) E R W H (enumI vs M1) := p
    unfold enumI at p
    split at p
    · refine .inl (s1 W σ H ρ M R ok sl ?_)
      unfold i_enum
      rw [q]
      exact p
    · refine .inr (s2 W σ H ρ M R ok sl ?_)
      unfold i_enumU
      rw [q]
      exact p
    · exact p.elim
end
end G

/-! text.split(mark) -/
namespace G
open PySem PySem.Spec PyProof.Rows L2 TL
section
variable {X : Cx} {C : Cf} {E : XK} {CX : CXT} {k : Nat}
/-- the pieces of a text -/
def splitS (x y : List Nat) : List (List Nat) := (Txt.split (enc x) (enc y)).map tl
theorem repA_strs {B : Hp} : ∀ ss : List Str, RepA C B (ss.map V.str) (ss.map fun s => D.str (tl s))
  | [] => .nil
  | s :: r => by
    have e : s = enc (tl s) := of_tl rfl
    exact .cons (by
      show Rep C B (.str s) (.str (tl s))
      conv => lhs; rw [e]
      exact .str _) (repA_strs r)
def f_split (x y : VD) (M : Mem) : Res VD := match x, y with
  | .d (.str a), .d (.str b) => if b.length ≠ 0 ∧ a.length + 2 ≤ lim then .ok (.d (.lst ((splitS a b).map D.str))) M else .fail
  | _, _ => .fail
theorem p_split : OpS C E (fun x y H Q => ∃ a b, x = .str a ∧ [y] = [.str b] ∧ (b.length == 0) = false ∧ a.length + 2 ≤ sizeLine ∧ rNewStrs (Txt.split a b) H Q) f_split := fun W H M x y a b Q ok ra rb p => by
  unfold f_split at p
  split at p
  · rename_i s t
    split at p
    · rename_i hl
      cases inv_str ra
      cases inv_str rb
      refine ⟨_, _, rfl, rfl, ?_, ?_, fun q hq => ?_⟩
      · rw [enc_len]
        simpa using hl.1
      · rw [enc_len]
        exact Nat.le_trans hl.2 (by decide)
      · obtain ⟨ok3, l3⟩ := ok.new (o := .lst ((Txt.split (enc s) (enc t)).map V.str)) hq
        refine p _ _ _ (Step.new ok hq) ok3 (Rep.lst (by show upd W.B q _ q = _; rw [upd_same]) ?_)
        have e : (splitS s t).map D.str = (Txt.split (enc s) (enc t)).map fun s => D.str (tl s) := by
          unfold splitS
          rw [List.map_map]
          rfl
        rw [e]
        exact repA_strs _
    · exact p.elim
  · exact p.elim
theorem x_split {o e : Expr} {ma mb : Mx VD} {apos pos : Pos} (ha : PX X C E o ma) (hb : PX X C E e mb) (hs : starEach [e] X.env = [(false, eval e X.env)] := by rfl) (hbase : attributeBase o "split" X.env (eval o X.env) = eval o X.env := by rfl) (hline : (apos.endLine == pos.line) = true := by rfl) :
    PX X C E (.Call (.Attribute o "split" apos) [e] [] pos) (e_m1 f_split ma mb) := by
  obtain ⟨ta, pa, sa⟩ := ha
  obtain ⟨tb, pb, sb⟩ := hb
  have q := sem_m1 (C := C) (E := E) (r := fun x xs H Q => ∃ a b, x = .str a ∧ xs = [.str b] ∧ (b.length == 0) = false ∧ a.length + 2 ≤ sizeLine ∧ rNewStrs (Txt.split a b) H Q) p_split sa sb
  exact ⟨_, pe_split pa pb hs hbase hline, q⟩
end
end G

/-! for x in xs, xs a list that changes -/
namespace G
open PySem PySem.Spec PyProof.Rows L2
section
variable {X : Cx} {C : Cf} {E : XK} {CX : CXT} {k : Nat}
/-- n: a bound of the turns; i: the place in the list -/
def forO (mg : VD → Env → Option Env) (body : Sx) (j : Nat) : Nat → Nat → Env → Mem → Out
  | 0, _, _, _ => .fail
  | n + 1, i, ρ, M => match M[j]? with
    | some (.lst ds) => match ds[i]? with
      | none => .nx ρ M
      | some d => match mg (.d d) ρ with
        | none => .fail
        | some ρ1 => match body ρ1 M with
          | .nx ρ2 M2 => forO mg body j n (i + 1) ρ2 M2
          | .ct ρ2 M2 => forO mg body j n (i + 1) ρ2 M2
          | .brk ρ2 M2 => .nx ρ2 M2
          | o => o
    | _ => .fail
def s_forO (m : Mx VD) (mg : VD → Env → Option Env) (body : Sx) : Sx := fun ρ M => (m ρ M).out fun v M1 => match v with
  | .adr j => match M1[j]? with
    | some (.lst ds) => forO mg body j (ds.length + 1) 0 ρ M1
    | _ => .fail
  | _ => .fail
theorem sem_forO {te : TE} {g : TG} {tb : L2.TS} {ts : List Nat} {m : Mx VD} {mg body} (se : Sem C E te m) (sg : SemG C ts g mg) (sb : SemS C E tb body) : SemS C E (tFor (iList C.K te) g tb) (s_forO m mg body) := fun W σ H ρ M D ok sl p => by
  refine se W σ H ρ M _ ok sl (post_out p fun v M1 W1 H1 x l1 ok1 rv p1 => ?_)
  split at p1
  · rename_i j
    split at p1
    · rename_i ds0 e0
      obtain ⟨q, rfl, hq⟩ := (show RepV C W1 x (.adr j) from rv)
      obtain ⟨_, vs0, h0, _⟩ := ok1.mo j q _ hq e0
      refine ⟨q, rfl, ⟨_, SqL.of h0⟩, fun i m σ2 H2 => ∃ (W2 : Wd) (M2 : Mem) (ρ2 : Env), Le W1 W2 ∧ Ok C W2 H2 M2 ∧ Slots C W2 σ2 ρ2 ∧ postS C E D W2 H2 (forO mg body j m i ρ2 M2), ⟨ds0.length + 1, W1, M1, ρ, Le.refl _, ok1, sl.mono l1.le, p1⟩, ?_⟩
      rintro i n σ2 H2 ⟨W2, M2, ρ2, l2, ok2, sl2, p2⟩
      cases n with
      | zero => exact p2.elim
      | succ n =>
        unfold forO at p2
        split at p2
        · rename_i ds e
          obtain ⟨q', eq, hq2⟩ := (show RepV C W2 (.ref q) (.adr j) from RepV.mono l2 (show RepV C W1 (.ref q) (.adr j) from ⟨q, rfl, hq⟩))
          cases eq
          obtain ⟨_, vs, h1, h2⟩ := ok2.mo j q _ hq2 e
          split at p2
          · rename_i hd
            refine .inl ⟨⟨vs, SqL.of h1, ?_⟩, postS_nx p2 ok2 sl2⟩
            rw [h2.length]
            exact List.getElem?_eq_none_iff.1 hd
          · rename_i d hd
            obtain ⟨v, hv, rx⟩ := h2.get hd
            refine .inr ⟨⟨vs, v, SqL.of h1, hv⟩, _, fun σ' H' h => ⟨n, Nat.lt_succ_self n, h⟩, fun x H3 y => ?_⟩
            obtain ⟨rfl, y⟩ := y
            have ev := y vs (SqL.of h1)
            rw [hv] at ev
            cases ev
            refine sg W2 σ2 _ ρ2 M2 _ (.d d) _ ok2 sl2 rx ?_
            cases q3 : mg (.d d) ρ2 with
            | none =>
              rw [q3] at p2
              exact p2.elim
            | some ρ3 =>
              rw [q3] at p2
              dsimp only at p2
              intro σ3 sl3 _
              refine sb W2 σ3 _ ρ3 M2 _ ok2 sl3 ?_
              cases q2 : body ρ3 M2 with
              | nx ρ4 M4 =>
                rw [q2] at p2
                exact fun W4 H4 σ4 s4 ok4 sl4 => ⟨W4, M4, ρ4, l2.trans s4.le, ok4, sl4, postS.mono s4 p2⟩
              | ct ρ4 M4 =>
                rw [q2] at p2
                exact fun W4 H4 σ4 s4 ok4 sl4 => ⟨W4, M4, ρ4, l2.trans s4.le, ok4, sl4, postS.mono s4 p2⟩
              | brk ρ4 M4 =>
                rw [q2] at p2
                exact p2
              | ret _ _ => rw [q2] at p2; exact p2
              | exc _ _ _ => rw [q2] at p2; exact p2
              | fail => rw [q2] at p2; exact p2
        · exact p2.elim
    · exact p1.elim
  · exact p1.elim
theorem xs_forO {tg iter : Expr} {body : List Stmt} {ts : List Nat} {m : Mx VD} {mg} {mb : Sx} {pos : Pos} (hK : C.K = X.K) (c : Cxx X C E CX k) (hi : PX X C E iter m) (hg : PXG X C ts tg mg) (hb : PXSs X C E body mb) (hs : ∀ x, foldedSetIterable iter X.env x = pure x := by intro _; rfl) : PXS X C E (.For tg iter body [] pos) (s_forO m mg mb) := by
  obtain ⟨te, pe, se⟩ := hi
  obtain ⟨g, pg, sg⟩ := hg
  obtain ⟨tb, pb, sb⟩ := hb
  have q := sem_forO se sg sb
  rw [hK] at q
  exact ⟨_, ps_for c.own c.calm (pi_list pe) pg pb hs, q⟩
/-- the body leaves the list as it was: the same turns as over a fixed list -/
theorem forO_eq {mg : VD → Env → Option Env} {body : Sx} {j : Nat} {ds : List D} (I : Env → Mem → Prop)
    (hM : ∀ ρ M, I ρ M → M[j]? = some (.lst ds))
    (hs : ∀ d ρ ρ1 M, d ∈ ds → I ρ M → mg (.d d) ρ = some ρ1 → (∀ ρ2 M2, body ρ1 M = .nx ρ2 M2 → I ρ2 M2) ∧ (∀ ρ2 M2, body ρ1 M = .ct ρ2 M2 → I ρ2 M2)) :
    ∀ (m i : Nat) (ρ : Env) (M : Mem), m + i = ds.length → I ρ M → forO mg body j (m + 1) i ρ M = forL mg body (ds.drop i) ρ M
  | 0, i, ρ, M, e, h => by
    have e1 : ds.drop i = [] := List.drop_eq_nil_of_le (by omega)
    have e2 : ds[i]? = none := List.getElem?_eq_none_iff.2 (by omega)
    rw [e1]
    simp only [forO, hM ρ M h, e2, forL]
  | m + 1, i, ρ, M, e, h => by
    have hlt : i < ds.length := by omega
    have e1 : ds.drop i = ds[i] :: ds.drop (i + 1) := List.drop_eq_getElem_cons hlt
    have e2 : ds[i]? = some ds[i] := List.getElem?_eq_getElem hlt
    rw [e1]
    unfold forO forL
    rw [hM ρ M h]
    dsimp only
    rw [e2]
    dsimp only
    cases q : mg (.d ds[i]) ρ with
    | none => rfl
    | some ρ1 =>
      dsimp only
      have hb := hs ds[i] ρ ρ1 M (List.getElem_mem hlt) h q
      cases q2 : body ρ1 M with
      | nx ρ2 M2 =>
        dsimp only
        exact forO_eq I hM hs m (i + 1) ρ2 M2 (by omega) (hb.1 _ _ q2)
      | ct ρ2 M2 =>
        dsimp only
        exact forO_eq I hM hs m (i + 1) ρ2 M2 (by omega) (hb.2 _ _ q2)
      | brk _ _ => rfl
      | ret _ _ => rfl
      | exc _ _ _ => rfl
      | fail => rfl
end
end G

namespace G
open PySem PySem.Spec PyProof.Rows L2
section
variable {X : Cx} {C : Cf} {E : XK} {CX : CXT} {k : Nat}
/-! comprehensions over a list that changes -/
def compO (turn : D → Mem → Res (Option D)) (j : Nat) : Nat → Nat → Mem → List D → Res (List D)
  | 0, _, _, _ => .fail
  | n + 1, i, M, acc => match M[j]? with
    | some (.lst ds) => match ds[i]? with
      | none => .ok acc M
      | some x => match turn x M with
        | .ok (some d) M1 => if acc.length < lim then compO turn j n (i + 1) M1 (acc ++ [d]) else .fail
        | .ok none M1 => compO turn j n (i + 1) M1 acc
        | _ => .fail
    | _ => .fail
def e_compO (vs : List Nat) (mi : Mx VD) (mg : VD → Env → Option Env) (mt : Mx Bool) (me : Mx VD) : Mx VD := fun ρ M => (mi ρ M).bind fun v M1 => match v with
  | .adr j => match M1[j]? with
    | some (.lst ds) => (compO (cTurn vs mg mt me ρ) j (ds.length + 1) 0 M1 []).bind fun ds M2 => .ok (.d (.lst ds)) M2
    | _ => .fail
  | _ => .fail
theorem sem_compO {t0 : TE} {g : TG} {tt : TT} {te : TE} {vs ts : List Nat} {mi : Mx VD} {mg mt me} (hts : ∀ j ∈ ts, j ∈ vs) (si : Sem C E t0 mi) (sg : SemG C ts g mg) (st : SemT C E0 tt mt) (se : Sem C E0 te me) : Sem C E (tLc (iList C.K t0) g tt te vs) (e_compO vs mi mg mt me) := fun W σ H ρ M Q ok sl p => by
  refine si W σ H ρ M _ ok sl (post_bind p fun v M1 W1 H1 x l1 ok1 rv p1 => ?_)
  cases v with
  | d _ => exact p1.elim
  | adr j0 =>
  dsimp only at p1
  cases e0 : M1[j0]? with
  | none =>
    rw [e0] at p1
    exact p1.elim
  | some o0 =>
  rw [e0] at p1
  cases o0 with
  | dead => exact p1.elim
  | ins _ _ => exact p1.elim
  | lsv _ => exact p1.elim
  | lst ds0 =>
  dsimp only at p1
  obtain ⟨q0, rfl, hq0⟩ := (show RepV C W1 x (.adr j0) from rv)
  obtain ⟨_, vs0, h0, _⟩ := ok1.mo j0 q0 _ hq0 e0
  refine ⟨q0, rfl, ⟨_, SqL.of h0⟩, ?_⟩
  intro A hA
  -- the state between the turns
  refine ⟨fun i m H2 => ∃ (W2 : Wd) (M2 : Mem) (vacc : List V) (acc : List D), Step W1 H1 W2 H2 ∧ Ok C W2 H2 M2 ∧ H2 A = some (.lst vacc) ∧ W2.B A = none ∧ (∀ j : Nat, W2.al[j]? ≠ some A) ∧ RepA C W2.B vacc acc ∧
    post C (relV C) E Q W1 H1 ((compO (cTurn vs mg mt me ρ) j0 m i M2 acc).bind fun ds M2 => .ok (.d (.lst ds)) M2), ?_, ?_⟩
  · refine ⟨ds0.length + 1, W1, M1, [], [], Step.grow hA, ok1.grow (same_upd hA), upd_same, ok1.notB hA, fun j e => ok1.ne hA e rfl, .nil, ?_⟩
    exact p1
  · rintro i n H2 ⟨W2, M2, vacc, acc, s2, ok2, hD, hB, hal, racc, p2⟩
    cases n with
    | zero => exact p2.elim
    | succ n =>
    simp only [compO] at p2
    cases e9 : M2[j0]? with
    | none =>
      rw [e9] at p2
      exact p2.elim
    | some o9 =>
    rw [e9] at p2
    cases o9 with
    | dead => exact p2.elim
    | ins _ _ => exact p2.elim
    | lsv _ => exact p2.elim
    | lst ds =>
    dsimp only at p2
    obtain ⟨q', eq, hq2⟩ := (show RepV C W2 (.ref q0) (.adr j0) from RepV.mono s2.le (show RepV C W1 (.ref q0) (.adr j0) from ⟨q0, rfl, hq0⟩))
    cases eq
    obtain ⟨_, ws, h1, h2⟩ := ok2.mo j0 q0 _ hq2 e9
    by_cases hlt : i < ds.length
    · obtain ⟨d, hd⟩ : ∃ d, ds[i]? = some d := ⟨ds[i], List.getElem?_eq_getElem hlt⟩
      obtain ⟨v, hv, rx⟩ := h2.get hd
      refine .inr ⟨⟨ws, v, SqL.of h1, hv⟩, fun H' => ∃ m', m' < n + 1 ∧ ∃ (W2 : Wd) (M2 : Mem) (vacc : List V) (acc : List D), Step W1 H1 W2 H' ∧ Ok C W2 H' M2 ∧ H' A = some (.lst vacc) ∧ W2.B A = none ∧ (∀ j : Nat, W2.al[j]? ≠ some A) ∧ RepA C W2.B vacc acc ∧
        post C (relV C) E Q W1 H1 ((compO (cTurn vs mg mt me ρ) j0 m' (i + 1) M2 acc).bind fun ds M2 => .ok (.d (.lst ds)) M2), fun H' h => h, fun x H3 y => ?_⟩
      obtain ⟨eH, y⟩ := y
      subst eH
      have ev := y ws (SqL.of h1)
      rw [hv] at ev
      cases ev
      have s3 : Step W2 H3 W2 H3 := Step.refl W2 H3
      have ok3 := ok2
      have hD3 := hD
      have hB3 := hB
      have hal3 := hal
      rw [hd] at p2
      dsimp only at p2
      have sl3 := ((sl.mono l1.le).mono s2.le).mono s3.le
      refine sg W2 (L2.wipe σ vs) _ (wipeE ρ vs) M2 _ (.d d) _ ok3 (sl3.wipe vs) rx ?_
      cases q0 : cTurn vs mg mt me ρ d M2 with
      | fail =>
        rw [q0] at p2
        exact p2.elim
      | exc _ _ _ =>
        rw [q0] at p2
        exact p2.elim
      | ok o M5 =>
        rw [q0] at p2
        cases o with
        | none =>
          obtain ⟨ρ2, q, q2⟩ := cTurn_none q0
          rw [q]
          intro σ2 sl4 w4
          refine ⟨by rw [w4 vs hts, wipe_idem fun j h => h], ?_⟩
          refine st W2 σ2 _ ρ2 M2 _ ok3 sl4 ?_
          rw [q2]
          intro W4 H4 b' s4 ok4 eb
          obtain ⟨hD4, hB4, hal4⟩ := s4.fr A _ hD3 hB3 hal3 nt_lst
          cases eb
          show ∃ m', _
          exact ⟨n, Nat.lt_succ_self n, W4, M5, vacc, acc, (s2.trans s3).trans s4, ok4, hD4, hB4, hal4, (racc.mono s3.le.1).mono s4.le.1, p2⟩
        | some z =>
          obtain ⟨ρ2, M4, q, q2, q3⟩ := cTurn_some q0
          rw [q]
          intro σ2 sl4 w4
          refine ⟨by rw [w4 vs hts, wipe_idem fun j h => h], ?_⟩
          refine st W2 σ2 _ ρ2 M2 _ ok3 sl4 ?_
          rw [q2]
          intro W4 H4 b' s4 ok4 eb
          obtain ⟨hD4, hB4, hal4⟩ := s4.fr A _ hD3 hB3 hal3 nt_lst
          cases eb
          show te σ2 H4 _
          refine se W4 σ2 H4 ρ2 M4 _ ok4 (sl4.mono s4.le) ?_
          rw [q3]
          intro W5 H5 y5 s5 ok5 r5
          obtain ⟨hD5, hB5, hal5⟩ := s5.fr A _ hD4 hB4 hal4 nt_lst
          have p2 : post C (relV C) E Q W1 H1 ((if acc.length < lim then compO (cTurn vs mg mt me ρ) j0 n (i + 1) M5 (acc ++ [z]) else Res.fail).bind fun ds M2 => .ok (.d (.lst ds)) M2) := p2
          split at p2
          · rename_i hl
            have racc5 : RepA C W5.B vacc acc := ((racc.mono s3.le.1).mono s4.le.1).mono s5.le.1
            refine ⟨vacc, hD5, by rw [racc.length]; exact lim_lt hl, n, Nat.lt_succ_self n, W5, M5, vacc ++ [y5], acc ++ [z], ?_, ?_, upd_same, hB5, hal5, racc5.append (.cons r5 .nil), p2⟩
            · have sx := (((s2.trans s3).trans s4).trans s5)
              refine ⟨sx.le, fun a o h1 h2 h3 h4 => ?_⟩
              obtain ⟨q1, q2, q3⟩ := sx.fr a o h1 h2 h3 h4
              exact ⟨by rw [upd_ne (ne_of_none h1 hA)]; exact q1, q2, q3⟩
            · refine ⟨fun b u e => ?_, ok5.nd, ok5.len, fun j b n e1 e2 => ?_, tabs_write ok5.tab hD5 plain_lst, ok5.tbB, ok5.low⟩
              · rw [upd_ne (ne_of_none e hB5)]
                exact ok5.sub b u e
              · have ne : b ≠ A := fun q => hal5 j (by rw [← q]; exact e1)
                have q := ok5.mo j b n e1 e2
                cases n with
                | dead => exact q
                | lst ds =>
                  obtain ⟨q1, vs, q2, q3⟩ := q
                  exact ⟨q1, vs, by rw [upd_ne ne]; exact q2, q3⟩
                | ins c fs =>
                  obtain ⟨q1, dx, vs, q2, q3⟩ := q
                  exact ⟨q1, dx, vs, by rw [upd_ne ne]; exact q2, q3⟩
                | lsv ds =>
                  obtain ⟨q1, vs, q2, q3⟩ := q
                  exact ⟨q1, vs, by rw [upd_ne ne]; exact q2, q3⟩
          · exact p2.elim
    · have hd : ds[i]? = none := List.getElem?_eq_none_iff.2 (by omega)
      refine .inl ⟨⟨ws, SqL.of h1, by rw [h2.length]; omega⟩, ?_⟩
      rw [hd] at p2
      have p2 : post C (relV C) E Q W1 H1 (.ok (.d (.lst acc)) M2) := p2
      obtain ⟨ok6, l6⟩ := ok2.know hD hB hal (tab_nlst ok2.tab hD)
      exact p2 _ H2 _ (s2.put hA hB) ok6 (Rep.lst (by show upd W2.B A _ A = _; rw [upd_same]) (racc.mono l6.1))
theorem x_compO {elt tg iter : Expr} {ifs : List Expr} {scope : Scope} {own : List (Str × Nat)} {pos : Pos} {ts : List Nat} {mi : Mx VD} {mg mt me} (hK : C.K = X.K) (c : Cxx X C E CX k) (hi : PX X C E iter mi) (ok : BlkOk X.N X.env.scope scope own)
    (hg : ∀ (s : Shared) (H : Hp) (A : Addr) (cl : List (Str × Addr)) (fp : List Addr), Cxx (X.blk s H scope (compEnvC scope cl A X.env) fp) C E0 CX k → PXG (X.blk s H scope (compEnvC scope cl A X.env) fp) C ts tg mg)
    (ht : ∀ (s : Shared) (H : Hp) (A : Addr) (cl : List (Str × Addr)) (fp : List Addr), Cxx (X.blk s H scope (compEnvC scope cl A X.env) fp) C E0 CX k → PXTs (X.blk s H scope (compEnvC scope cl A X.env) fp) C E0 ifs mt)
    (he : ∀ (s : Shared) (H : Hp) (A : Addr) (cl : List (Str × Addr)) (fp : List Addr), Cxx (X.blk s H scope (compEnvC scope cl A X.env) fp) C E0 CX k → PX (X.blk s H scope (compEnvC scope cl A X.env) fp) C E0 elt me)
    (hts : ∀ j ∈ ts, j ∈ own.map (·.2) := by decide) (hs : ∀ x, foldedSetIterable iter X.env x = pure x := by intro _; rfl) : PX X C E (.ListComp elt [⟨tg, iter, ifs, 0⟩] scope pos) (e_compO (own.map (·.2)) mi mg mt me) := by
  obtain ⟨t0, p0, s0⟩ := hi
  have q := sem_compO hts s0 (sem_tg ts mg) (sem_tt (E := E0) mt) (sem_te (E := E0) me)
  rw [hK] at q
  exact ⟨_, pe_lc c.calm c.nd (pi_list p0) ok (fun s H A cl fp => (hg s H A cl fp (c.blk s H scope _ fp)).pg) (fun s H A cl fp => (ht s H A cl fp (c.blk s H scope _ fp)).pts) (fun s H A cl fp => (he s H A cl fp (c.blk s H scope _ fp)).pe) hs,
    q⟩
/-- the turns leave the list as it was -/
theorem compO_eq {turn : D → Mem → Res (Option D)} {j : Nat} {ds : List D} (I : Mem → Prop) (hM : ∀ M, I M → M[j]? = some (.lst ds))
    (ht : ∀ d M o M', d ∈ ds → I M → turn d M = .ok o M' → I M') :
    ∀ (m i : Nat) (M : Mem) (acc : List D), m + i = ds.length → I M → compO turn j (m + 1) i M acc = compL turn (ds.drop i) M acc
  | 0, i, M, acc, e, h => by
    have e1 : ds.drop i = [] := List.drop_eq_nil_of_le (by omega)
    have e2 : ds[i]? = none := List.getElem?_eq_none_iff.2 (by omega)
    rw [e1]
    simp only [compO, hM M h, e2, compL]
  | m + 1, i, M, acc, e, h => by
    have hlt : i < ds.length := by omega
    have e1 : ds.drop i = ds[i] :: ds.drop (i + 1) := List.drop_eq_getElem_cons hlt
    have e2 : ds[i]? = some ds[i] := List.getElem?_eq_getElem hlt
    rw [e1]
    unfold compO compL
    rw [hM M h]
    dsimp only
    rw [e2]
    dsimp only
    cases q : turn ds[i] M with
    | ok o M1 =>
      have h1 := ht ds[i] M o M1 (List.getElem_mem hlt) h q
      cases o with
      | none =>
        dsimp only
        exact compO_eq I hM ht m (i + 1) M1 acc (by omega) h1
      | some d =>
        dsimp only
        rw [compO_eq I hM ht m (i + 1) M1 (acc ++ [d]) (by omega) h1]
    | exc _ _ _ => rfl
    | fail => rfl
/-- a walk over a list that changes, whose turns leave the memory as it was -/
theorem compO_pure {turn : D → Mem → Res (Option D)} {j : Nat} {ds : List D} {M : Mem} (hM : M[j]? = some (.lst ds)) (ht : ∀ d o M', d ∈ ds → turn d M = .ok o M' → M' = M) (acc : List D) : compO turn j (ds.length + 1) 0 M acc = compL turn ds M acc := by
  have h := compO_eq (turn := turn) (j := j) (ds := ds) (fun M' => M' = M) (fun M' e => by rw [e]; exact hM) (fun d M1 o M' hd e q => by subst e; exact ht d o M' hd q) ds.length 0 M acc rfl rfl
  rw [List.drop_zero] at h
  exact h
end
end G

/-! a test of an object with its own __bool__ -/
namespace G
open PySem PySem.Spec PyProof.Rows L2
section
variable {X : Cx} {C : Cf} {E : XK} {CX : CXT} {k : Nat}
def rTruO (C : Cf) (c : Nat) (m : List VD → Mem → Res VD) (E : XK) : V → Hp → (Bool → Hp → Prop) → Prop := fun x H Q => ∃ a dx fs, x = .ref a ∧ H a = some (.ins (C.ca c) dx fs) ∧ spP C m [x] H (fun v H2 => ∃ b, v = .bl b ∧ Q b H2) E
theorem tru_boolO {c j : Nat} {m} (cx : Cxx X C E CX k) (F : OwnOk X.prog X.w X.K X.mg X.base CX C c "__bool__" j m) (hj : j ≤ k) : TruR X (rTruO C c m E) := by
  intro pins s σ H x u Q I rx h
  obtain ⟨a, dx, fs, rfl, ha, sp⟩ := h
  obtain ⟨f, F, hs, hf⟩ := F.ex
  have rx0 := rx
  cases rx
  obtain ⟨mA, J, _⟩ := ins_get I.hok ha
  obtain ⟨od, J, _⟩ := J.look
  obtain ⟨m', hF⟩ := I.fr
  refine PySem.W.truthy_K hF I.ok.mod.kin J hs hf (wpAny_mono (own_run (cx.sub.mono hj) F cx.pas I (.cons rx0 .nil) sp) (fun u s' q => ?_) fun _ _ z => z)
  obtain ⟨v, H', I', rv, b, rfl, q⟩ := q
  cases rv
  exact ⟨H', I', q⟩
def e_truO (c : Nat) (m : List VD → Mem → Res VD) (ma : Mx VD) : Mx Bool := fun ρ M => (ma ρ M).bind fun x M1 => if isC c M1 x then (m [x] M1).bind fun v M2 => match v with
  | .d (.bl b) => .ok b M2
  | _ => .fail else .fail
theorem t_truthO {c j : Nat} {m} {a : Expr} {ma : Mx VD} (cx : Cxx X C E CX k) (F : OwnOk X.prog X.w X.K X.mg X.base CX C c "__bool__" j m) (ha : PX X C E a ma) (hj : j ≤ k := by decide) (he : ∀ whole, isTrue a X.env whole = (do let v ← whole; standAt a.pos; holding [v] (truthy v)) := by intro _; rfl) : PXT X C E a (e_truO c m ma) := by
  obtain ⟨ta, pa, sa⟩ := ha
  refine ⟨_, pt_truthR pa (tru_boolO cx F hj) he, fun W σ H ρ M Q ok sl p => ?_⟩
  refine sa W σ H ρ M _ ok sl (post_bind p fun x M1 W1 H1 y l1 ok1 ry p1 => ?_)
  split at p1
  · rename_i h
    obtain ⟨b, dx, vs, rfl, h1⟩ := isC_at ok1 ry h
    refine ⟨b, dx, _, rfl, h1, W1, M1, _, ok1, .cons ry .nil, post_bind p1 fun v M2 W2 H2 z l2 ok2 rz p2 => ?_⟩
    split at p2
    · cases inv_bl rz
      exact ⟨_, rfl, post_ok p2 ok2 rfl⟩
    · exact p2.elim
  · exact p1.elim
end
end G

/-! a & b, a | b .. of two objects of one class -/
namespace G
open PySem PySem.Spec PyProof.Rows L2
section
variable {X : Cx} {C : Cf} {E : XK} {CX : CXT} {k : Nat}
def rBinO (C : Cf) (c : Nat) (m : List VD → Mem → Res VD) (E : XK) : R2 := fun x y H Q => ∃ a dx fs b dy gs, x = .ref a ∧ H a = some (.ins (C.ca c) dx fs) ∧ y = .ref b ∧ H b = some (.ins (C.ca c) dy gs) ∧ spP C m [x, y] H (fun v H2 => ∃ p, v = .ref p ∧ Q (.ref p) H2) E
theorem op_binO {op : Operator} {c j : Nat} {m} (cx : Cxx X C E CX k) (F : OwnOk X.prog X.w X.K X.mg X.base CX C c (PySem.dunder op.info.2) j m) (hc : PySem.W.selfFirst X.K (C.ca c) = true) (hj : j ≤ k) : OpR X (binaryOp op) (rBinO C c m E) := by
  intro pins s σ H x y v u Q I rx ry h
  obtain ⟨a, dx, fs, b, dy, gs, rfl, ha, rfl, hb, sp⟩ := h
  obtain ⟨f, F, hs, hf⟩ := F.ex
  have rx0 := rx
  have ry0 := ry
  cases rx
  cases ry
  obtain ⟨mA, J, _⟩ := ins_get I.hok ha
  obtain ⟨od, J, _⟩ := J.look
  obtain ⟨m', hF⟩ := I.fr
  have lk : PySem.W.Looks (model X.prog X.w) s.heap (typeOf (.ref b)) (.ref (C.ca c)) := (TyV.ins hb).looks I ry0
  refine PySem.W.binop_K hF I.ok.mod.kin J lk hc hs hf (wpAny_mono (own_run (cx.sub.mono hj) F cx.pas I (.cons rx0 (.cons ry0 .nil)) sp) (fun u s' q => ?_) fun _ _ z => z)
  obtain ⟨v, H', I', rv, p, rfl, q⟩ := q
  cases rv
  exact ⟨.ref p, H', I', rfl, q⟩
def f_binO (c : Nat) (m : List VD → Mem → Res VD) (x y : VD) (M : Mem) : Res VD := if isC c M x && isC c M y then (m [x, y] M).bind fun v M1 => match v with
  | .d (.obj c' fs) => .ok (.d (.obj c' fs)) M1
  | .adr i => .ok (.adr i) M1
  | _ => .fail else .fail
theorem p_binO {c : Nat} {m} : OpS C E (rBinO C c m E) (f_binO c m) := fun W H M x y a b Q ok ra rb p => by
  unfold f_binO at p
  split at p
  · rename_i h
    rw [Bool.and_eq_true] at h
    obtain ⟨a1, dx, vs, rfl, h1⟩ := isC_at ok ra h.1
    obtain ⟨b1, dy, ws, rfl, h2⟩ := isC_at ok rb h.2
    refine ⟨a1, dx, _, b1, dy, _, rfl, h1, rfl, h2, W, M, _, ok, .cons ra (.cons rb .nil), post_bind p fun v M2 W2 H2 z l2 ok2 rz p2 => ?_⟩
    split at p2
    · rename_i c' fs
      cases (show Rep C W2.B z (.obj c' fs) from rz) with
      | obj h1 h2 h3 => exact ⟨_, rfl, post_ok p2 ok2 (Rep.obj h1 h2 h3)⟩
    · rename_i i
      obtain ⟨q, rfl, hq⟩ := (show RepV C W2 z (.adr i) from rz)
      exact ⟨_, rfl, post_ok p2 ok2 ⟨q, rfl, hq⟩⟩
    · exact p2.elim
  · exact p.elim
theorem x_binO {op : Operator} {c j : Nat} {m} {a b : Expr} {ma mb : Mx VD} {pos : Pos} (cx : Cxx X C E CX k) (F : OwnOk X.prog X.w X.K X.mg X.base CX C c (PySem.dunder op.info.2) j m) (hc : PySem.W.selfFirst X.K (C.ca c) = true) (ha : PX X C E a ma) (hb : PX X C E b mb) (hj : j ≤ k := by decide) : PX X C E (.BinOp a op b pos) (e_op (f_binO c m) ma mb) :=
  x_op (op_binO cx F hc hj) p_binO ha hb
end
end G

/-! ~a, a(..) of an object -/
namespace G
open PySem PySem.Spec PyProof.Rows L2
section
variable {X : Cx} {C : Cf} {E : XK} {CX : CXT} {k : Nat}
def rInvO (C : Cf) (c : Nat) (m : List VD → Mem → Res VD) (E : XK) : V → Hp → VK → Prop := fun x H Q => ∃ a dx fs, x = .ref a ∧ H a = some (.ins (C.ca c) dx fs) ∧ spP C m [x] H Q E
theorem un_invO {c j : Nat} {m} (cx : Cxx X C E CX k) (F : OwnOk X.prog X.w X.K X.mg X.base CX C c "__invert__" j m) (hj : j ≤ k) : UnR X (unaryOp .Invert) (rInvO C c m E) := by
  intro pins s σ H x u Q I rx h
  obtain ⟨a, dx, fs, rfl, ha, sp⟩ := h
  obtain ⟨f, F, hs, hf⟩ := F.ex
  have rx0 := rx
  cases rx
  obtain ⟨mA, J, _⟩ := ins_get I.hok ha
  obtain ⟨od, J, _⟩ := J.look
  obtain ⟨m', hF⟩ := I.fr
  exact PySem.W.ksp_inv hF I.ok.mod.kin J hs hf (own_run (cx.sub.mono hj) F cx.pas I (.cons rx0 .nil) sp)
def e_invO (c : Nat) (m : List VD → Mem → Res VD) (ma : Mx VD) : Mx VD := fun ρ M => (ma ρ M).bind fun x M1 => if isC c M1 x then m [x] M1 else .fail
theorem x_invO {c j : Nat} {m} {a : Expr} {ma : Mx VD} {pos : Pos} (cx : Cxx X C E CX k) (F : OwnOk X.prog X.w X.K X.mg X.base CX C c "__invert__" j m) (ha : PX X C E a ma) (hj : j ≤ k := by decide) : PX X C E (.UnaryOp .Invert a pos) (e_invO c m ma) := by
  obtain ⟨ta, pa, sa⟩ := ha
  refine ⟨_, pe_un (un_invO cx F hj) pa, fun W σ H ρ M Q ok sl p => ?_⟩
  refine sa W σ H ρ M _ ok sl (post_bind p fun x M1 W1 H1 y l1 ok1 ry p1 => ?_)
  split at p1
  · rename_i h
    obtain ⟨b, dx, vs, rfl, h1⟩ := isC_at ok1 ry h
    exact ⟨b, dx, _, rfl, h1, W1, M1, _, ok1, .cons ry .nil, p1⟩
  · exact p1.elim
/-- the class's own __call__ -/
structure CllOk (P : Program) (w : World) (K : PySem.W.Frag) (mg : Str → Option Value) (base : Heap) (CX : CXT) (C : Cf) (c : Nat) (j : Nat) (m : List VD → Mem → Res VD) : Prop where
  ex : ∃ f, FnR P w K mg base CX j f (spP C m) ∧ StX.CallO K (C.ca c) f
def e_callO (c : Nat) (m : List VD → Mem → Res VD) (mf : Mx VD) (ms : Mx (List VD)) : Mx VD := fun ρ M => (mf ρ M).bind fun x M1 => match x with
  | .d (.obj c' fs) => (ms ρ M1).bind fun vs M2 => if c' = c then m (.d (.obj c' fs) :: vs) M2 else .fail
  | .adr i => (ms ρ M1).bind fun vs M2 => if isC c M2 (.adr i) then m (.adr i :: vs) M2 else .fail
  | _ => .fail
theorem x_callO {c j : Nat} {m} {fe e : Expr} {es : List Expr} {mf : Mx VD} {ms : Mx (List VD)} {pos : Pos} (cx : Cxx X C E CX k) (F : CllOk X.prog X.w X.K X.mg X.base CX C c j m) (hf : PX X C E fe mf) (ha : PXA X C E (e :: es) ms) (hj : j ≤ k := by decide)
    (ht : eval (.Call fe (e :: es) [] pos) X.env = (do callWith pos (← eval fe X.env) [] (backTo pos (starEach (e :: es) X.env)) (backToKw pos (keywordEach [] X.env))) := by rfl)
    (he : starEach (e :: es) X.env = (false, eval e X.env) :: starEach es X.env := by rfl) (hpl : (backTo pos (starEach es X.env)).any (·.1) = false := by rfl) : PX X C E (.Call fe (e :: es) [] pos) (e_callO c m mf ms) := by
  obtain ⟨tf, pf, sf⟩ := hf
  obtain ⟨ta, pa, sa⟩ := ha
  obtain ⟨f, F, hc⟩ := F.ex
  refine ⟨_, StX.pe_callO pf hc F (cx.sub.mono hj).room cx.pas pa ht he hpl, fun W σ H ρ M Q ok sl p => ?_⟩
  refine sf W σ H ρ M _ ok sl (post_bind p fun x M1 W1 H1 y l1 ok1 ry p1 => ?_)
  split at p1
  · rename_i c' fs
    have ry := (show RepV C W1 y (.d (.obj c' fs)) from ry)
    obtain ⟨a, rfl⟩ : ∃ a, y = .ref a := by
      cases (show Rep C W1.B y (.obj c' fs) from ry) with
      | obj h1 h2 h3 => exact ⟨_, rfl⟩
    refine ⟨a, rfl, sa W1 σ H1 ρ M1 _ ok1 (sl.mono l1.le) (post_bind p1 fun vs M2 W2 H2 ys l2 ok2 rys p2 => ?_)⟩
    have ry2 := RepV.mono l2.le ry
    split at p2
    · rename_i h
      subst h
      cases (show Rep C W2.B (.ref a) (.obj c' fs) from ry2) with
      | obj h1 h2 h3 => exact ⟨.inr ⟨_, _, ok2.sub _ _ h1⟩, W2, M2, _, ok2, .cons (show RepV C W2 (.ref a) (.d (.obj c' fs)) from Rep.obj h1 h2 h3) rys, p2⟩
    · exact p2.elim
  · rename_i i
    have ry := (show RepV C W1 y (.adr i) from ry)
    obtain ⟨a, rfl⟩ : ∃ a, y = .ref a := by
      obtain ⟨q, rfl, _⟩ := ry
      exact ⟨_, rfl⟩
    refine ⟨a, rfl, sa W1 σ H1 ρ M1 _ ok1 (sl.mono l1.le) (post_bind p1 fun vs M2 W2 H2 ys l2 ok2 rys p2 => ?_)⟩
    have ry2 := RepV.mono l2.le ry
    split at p2
    · rename_i h
      obtain ⟨b, dx, ws, e, h1⟩ := isC_at ok2 ry2 h
      cases e
      exact ⟨.inr ⟨dx, _, h1⟩, W2, M2, _, ok2, .cons ry2 rys, p2⟩
    · exact p2.elim
  · exact p1.elim
end
end G

/-! sorted(list of ints) -/
namespace G
open PySem PySem.Spec PyProof.Rows L2
section
variable {X : Cx} {C : Cf} {E : XK} {CX : CXT} {k : Nat}
def inI (x : Int) : List Int → List Int
  | [] => [x]
  | y :: r => if x ≤ y then x :: y :: r else y :: inI x r
def srtI : List Int → List Int
  | [] => []
  | x :: r => inI x (srtI r)
theorem inI_perm (x : Int) : ∀ l, (inI x l).Perm (x :: l)
  | [] => .refl _
  | y :: r => by
    unfold inI
    split
    · exact .refl _
    · exact ((inI_perm x r).cons y).trans (.swap _ _ _)
theorem srtI_perm : ∀ l, (srtI l).Perm l
  | [] => .refl _
  | x :: r => (inI_perm x _).trans ((srtI_perm r).cons x)
theorem inI_pw (x : Int) : ∀ l, l.Pairwise (· ≤ ·) → (inI x l).Pairwise (· ≤ ·)
  | [], _ => by simp [inI]
  | y :: r, h => by
    have h' := List.pairwise_cons.1 h
    unfold inI
    split
    · rename_i hx
      refine List.pairwise_cons.2 ⟨fun z hz => ?_, h⟩
      rcases List.mem_cons.1 hz with e | e
      · rw [e]; exact hx
      · exact Int.le_trans hx (h'.1 z e)
    · rename_i hx
      refine List.pairwise_cons.2 ⟨fun z hz => ?_, inI_pw x r h'.2⟩
      rcases List.mem_cons.1 ((inI_perm x r).mem_iff.1 hz) with e | e
      · rw [e]; omega
      · exact h'.1 z e
theorem srtI_pw : ∀ l, (srtI l).Pairwise (· ≤ ·)
  | [] => .nil
  | x :: r => inI_pw x _ (srtI_pw r)
theorem srt_uni : ∀ (a b : List Int), a.Perm b → a.Pairwise (· ≤ ·) → b.Pairwise (· ≤ ·) → a = b
  | [], b, p, _, _ => (List.Perm.nil_eq p)
  | x :: a, [], p, _, _ => by have := p.length_eq; simp at this
  | x :: a, y :: b, p, ha, hb => by
    have ha' := List.pairwise_cons.1 ha
    have hb' := List.pairwise_cons.1 hb
    have h1 : y ≤ x := by
      rcases List.mem_cons.1 (p.mem_iff.1 (List.mem_cons_self)) with e | e
      · omega
      · exact hb'.1 x e
    have h2 : x ≤ y := by
      rcases List.mem_cons.1 (p.mem_iff.2 (List.mem_cons_self)) with e | e
      · omega
      · exact ha'.1 y e
    obtain rfl : x = y := by omega
    rw [srt_uni a b (p.cons_inv) ha'.2 hb'.2]
theorem repA_ints' {B : Hp} : ∀ ns : List Int, RepA C B (ns.map V.int) (ns.map D.int)
  | [] => .nil
  | n :: r => .cons (.int n) (repA_ints' r)
def f_sortI : List VD → Mem → Res VD
  | [v], M => match (lstOf M v).bind inL with
    | some ns => if ns.length < 64 then .ok (.d (.lst ((srtI ns).map D.int))) M else .fail
    | none => .fail
  | _, _ => .fail
theorem p_sortI : CallS C E (rSorted C.K) f_sortI := fun W H M xs as Q ok ra p => by
  unfold f_sortI at p
  split at p
  · rename_i v
    obtain ⟨y, rfl, r⟩ := ra.one
    split at p
    · rename_i ns e
      split at p
      · rename_i hl
        cases q : lstOf M v with
        | none => rw [q] at e; cases e
        | some ds =>
          rw [q] at e
          obtain ⟨a, vs, rfl, h1, h2⟩ := lst_read ok r q
          have e2 := RepA.inL h2 e
          subst e2
          refine ⟨a, ns, rfl, SqL.of h1, hl, fun ns' b hp hs hb => ?_⟩
          obtain rfl := srt_uni ns' (srtI ns) (hp.trans (srtI_perm ns).symm) hs (srtI_pw ns)
          obtain ⟨ok3, l3⟩ := ok.new (o := .lst ((srtI ns).map V.int)) hb
          exact p _ _ _ (Step.new ok hb) ok3 (Rep.lst (by show upd W.B b _ b = _; rw [upd_same]) (repA_ints' _))
      · exact p.elim
    · exact p.elim
  · exact p.elim
theorem xb_sortI {e : Expr} {es : List Expr} {ms : Mx (List VD)} {p pos : Pos} (cx : Cxx X C E CX k) (hm : X.mg "sorted" = none) (ha : PXA X C E (e :: es) ms) (hg : Gl X "sorted" := by rfl)
    (he : starEach (e :: es) X.env = (false, eval e X.env) :: starEach es X.env := by rfl) (hpl : (backTo pos (starEach es X.env)).any (·.1) = false := by rfl) : PX X C E (.Call (.Name "sorted" p) (e :: es) [] pos) (e_bi f_sortI ms) :=
  x_bi (by rw [cx.K]; exact cr_sorted) p_sortI hm boot_sorted ha hg (by decide) (by decide) he hpl
end
end G

/-! comprehensions whose list changes later; isinstance of an own class; constants of classes; list(x) that changes -/
namespace G
open PySem PySem.Spec PyProof.Rows L2
theorem Ok.knowM {C : Cf} {W : Wd} {H : Hp} {M : Mem} {A : Addr} {vs : List V} {ds : List D} (ok : Ok C W H M) (hD : H A = some (.lst vs)) (hB : W.B A = none) (hal : ∀ j : Nat, W.al[j]? ≠ some A) (r : RepA C W.B vs ds) : Ok C ⟨W.B, W.al ++ [A]⟩ H (M ++ [.lst ds]) ∧ Le W ⟨W.B, W.al ++ [A]⟩ := by
  have l : Le W ⟨W.B, W.al ++ [A]⟩ := ⟨Same.refl _, [A], rfl⟩
  refine ⟨⟨ok.sub, nodup_snoc ok.nd fun h => ?_, by simp [ok.len], fun i a n e1 e2 => ?_, ok.tab, ok.tbB, ok.low⟩, l⟩
  · obtain ⟨i, e⟩ := List.mem_iff_getElem?.mp h
    exact hal i e
  · have e1' : (W.al ++ [A])[i]? = some a := e1
    by_cases hi : i < M.length
    · rw [List.getElem?_append_left hi] at e2
      rw [List.getElem?_append_left (by rw [ok.len]; exact hi)] at e1'
      have q := ok.mo i a n e1' e2
      exact q.world l fun z e nd => by
        subst e
        exact q.freeB nd
    · have hi' : i = M.length := by
        have := (List.getElem?_eq_some_iff.mp e2).1
        simp at this
        omega
      subst hi'
      simp at e2
      subst e2
      rw [← ok.len] at e1'
      simp at e1'
      subst e1'
      exact ⟨hB, vs, hD, r⟩
theorem Step.knowM {W1 W2 : Wd} {H1 H2 : Hp} {A : Addr} (s : Step W1 H1 W2 H2) (hA : H1 A = none) : Step W1 H1 ⟨W2.B, W2.al ++ [A]⟩ H2 := ⟨s.le.trans ⟨Same.refl _, [A], rfl⟩, fun x u h1 h2 h3 h4 => by
  obtain ⟨q1, q2, q3⟩ := s.fr x u h1 h2 h3 h4
  refine ⟨q1, q2, fun i e => ?_⟩
  have e : (W2.al ++ [A])[i]? = some x := e
  by_cases hi : i < W2.al.length
  · rw [List.getElem?_append_left hi] at e
    exact q3 i e
  · rw [List.getElem?_append_right (by omega)] at e
    cases q : i - W2.al.length with
    | zero =>
      rw [q] at e
      exact (ne_of_none h1 hA) (Option.some.inj e).symm
    | succ n =>
      rw [q] at e
      simp at e⟩
section
variable {X : Cx} {C : Cf} {E : XK} {CX : CXT} {k : Nat}
def e_compG (fin : List D → Mem → Res VD) (vs : List Nat) (mi : Mx (List D)) (mg : VD → Env → Option Env) (mt : Mx Bool) (me : Mx VD) : Mx VD := fun ρ M => (mi ρ M).bind fun items M1 => (compL (cTurn vs mg mt me ρ) items M1 []).bind fin
theorem sem_compG {fin : List D → Mem → Res VD} {wi : TI} {g : TG} {tt : TT} {te : TE} {vs ts : List Nat} {mi mg mt me} (hts : ∀ j ∈ ts, j ∈ vs) (si : SemI C E wi mi) (sg : SemG C ts g mg) (st : SemT C E0 tt mt) (se : Sem C E0 te me) (hfin : ∀ (W1 W2 : Wd) (H1 H2 : Hp) (M2 : Mem) (A : Addr) (vacc : List V) (acc : List D) (Q : VK), H1 A = none → Step W1 H1 W2 H2 → Ok C W2 H2 M2 → H2 A = some (.lst vacc) → W2.B A = none → (∀ j : Nat, W2.al[j]? ≠ some A) → RepA C W2.B vacc acc → post C (relV C) E Q W1 H1 (fin acc M2) → Q (.ref A) H2) : Sem C E (tLc wi g tt te vs) (e_compG fin vs mi mg mt me) := fun W σ H ρ M Q ok sl p => by
  refine si W σ H ρ M _ ok sl (post_bind p fun items M1 W1 H1 J l1 ok1 wk p1 => ?_)
  intro A hA
  -- the state between the turns
  refine ⟨fun i m H2 => m = items.length - i ∧ i ≤ items.length ∧ ∃ (W2 : Wd) (M2 : Mem) (vacc : List V) (acc : List D), Step W1 H1 W2 H2 ∧ Ok C W2 H2 M2 ∧ H2 A = some (.lst vacc) ∧ W2.B A = none ∧ (∀ j : Nat, W2.al[j]? ≠ some A) ∧ RepA C W2.B vacc acc ∧
    post C (relV C) E Q W1 H1 ((compL (cTurn vs mg mt me ρ) (items.drop i) M2 acc).bind fin), ?_, ?_⟩
  · refine ⟨_, rfl, Nat.zero_le _, W1, M1, [], [], Step.grow hA, ok1.grow (same_upd hA), upd_same, ok1.notB hA, fun j e => ok1.ne hA e rfl, .nil, ?_⟩
    rw [List.drop_zero]
    exact p1
  · rintro i m H2 ⟨rfl, hi, W2, M2, vacc, acc, s2, ok2, hD, hB, hal, racc, p2⟩
    by_cases hlt : i < items.length
    · refine .inr ⟨wk.go i W2 H2 M2 s2.le ok2 hlt, fun H' => ∃ m', m' < items.length - i ∧ (m' = items.length - (i + 1) ∧ i + 1 ≤ items.length ∧ ∃ (W2 : Wd) (M2 : Mem) (vacc : List V) (acc : List D), Step W1 H1 W2 H' ∧ Ok C W2 H' M2 ∧ H' A = some (.lst vacc) ∧ W2.B A = none ∧ (∀ j : Nat, W2.al[j]? ≠ some A) ∧ RepA C W2.B vacc acc ∧
        post C (relV C) E Q W1 H1 ((compL (cTurn vs mg mt me ρ) (items.drop (i + 1)) M2 acc).bind fin)), fun H' h => h, fun x H3 y => ?_⟩
      obtain ⟨W3, d, hd, s3, ok3, rx⟩ := wk.yld i W2 H2 M2 x H3 s2.le ok2 hlt y
      obtain ⟨hD3, hB3, hal3⟩ := s3.fr A _ hD hB hal nt_lst
      have e : items.drop i = d :: items.drop (i + 1) := by
        rw [List.drop_eq_getElem_cons hlt]
        have := (List.getElem?_eq_some_iff.mp hd).2
        rw [this]
      rw [e] at p2
      simp only [compL] at p2
      have sl3 := ((sl.mono l1.le).mono s2.le).mono s3.le
      refine sg W3 (L2.wipe σ vs) H3 (wipeE ρ vs) M2 x (.d d) _ ok3 (sl3.wipe vs) rx ?_
      cases q0 : cTurn vs mg mt me ρ d M2 with
      | fail =>
        rw [q0] at p2
        exact p2.elim
      | exc _ _ _ =>
        rw [q0] at p2
        exact p2.elim
      | ok o M5 =>
        rw [q0] at p2
        cases o with
        | none =>
          obtain ⟨ρ2, q, q2⟩ := cTurn_none q0
          rw [q]
          intro σ2 sl4 w4
          refine ⟨by rw [w4 vs hts, wipe_idem fun j h => h], ?_⟩
          refine st W3 σ2 H3 ρ2 M2 _ ok3 sl4 ?_
          rw [q2]
          intro W4 H4 b' s4 ok4 eb
          obtain ⟨hD4, hB4, hal4⟩ := s4.fr A _ hD3 hB3 hal3 nt_lst
          cases eb
          show ∃ m', _
          exact ⟨_, by omega, rfl, hlt, W4, M5, vacc, acc, (s2.trans s3).trans s4, ok4, hD4, hB4, hal4, (racc.mono s3.le.1).mono s4.le.1, p2⟩
        | some z =>
          obtain ⟨ρ2, M4, q, q2, q3⟩ := cTurn_some q0
          rw [q]
          intro σ2 sl4 w4
          refine ⟨by rw [w4 vs hts, wipe_idem fun j h => h], ?_⟩
          refine st W3 σ2 H3 ρ2 M2 _ ok3 sl4 ?_
          rw [q2]
          intro W4 H4 b' s4 ok4 eb
          obtain ⟨hD4, hB4, hal4⟩ := s4.fr A _ hD3 hB3 hal3 nt_lst
          cases eb
          show te σ2 H4 _
          refine se W4 σ2 H4 ρ2 M4 _ ok4 (sl4.mono s4.le) ?_
          rw [q3]
          intro W5 H5 y5 s5 ok5 r5
          obtain ⟨hD5, hB5, hal5⟩ := s5.fr A _ hD4 hB4 hal4 nt_lst
          have p2 : post C (relV C) E Q W1 H1 ((if acc.length < lim then compL (cTurn vs mg mt me ρ) (items.drop (i + 1)) M5 (acc ++ [z]) else Res.fail).bind fin) := p2
          split at p2
          · rename_i hl
            have racc5 : RepA C W5.B vacc acc := ((racc.mono s3.le.1).mono s4.le.1).mono s5.le.1
            refine ⟨vacc, hD5, by rw [racc.length]; exact lim_lt hl, _, by omega, rfl, hlt, W5, M5, vacc ++ [y5], acc ++ [z], ?_, ?_, upd_same, hB5, hal5, racc5.append (.cons r5 .nil), p2⟩
            · have sx := (((s2.trans s3).trans s4).trans s5)
              refine ⟨sx.le, fun a o h1 h2 h3 h4 => ?_⟩
              obtain ⟨q1, q2, q3⟩ := sx.fr a o h1 h2 h3 h4
              exact ⟨by rw [upd_ne (ne_of_none h1 hA)]; exact q1, q2, q3⟩
            · refine ⟨fun b u e => ?_, ok5.nd, ok5.len, fun j b n e1 e2 => ?_, tabs_write ok5.tab hD5 plain_lst, ok5.tbB, ok5.low⟩
              · rw [upd_ne (ne_of_none e hB5)]
                exact ok5.sub b u e
              · have ne : b ≠ A := fun q => hal5 j (by rw [← q]; exact e1)
                have q := ok5.mo j b n e1 e2
                cases n with
                | dead => exact q
                | lst ds =>
                  obtain ⟨q1, vs, q2, q3⟩ := q
                  exact ⟨q1, vs, by rw [upd_ne ne]; exact q2, q3⟩
                | ins c fs =>
                  obtain ⟨q1, dx, vs, q2, q3⟩ := q
                  exact ⟨q1, dx, vs, by rw [upd_ne ne]; exact q2, q3⟩
                | lsv ds =>
                  obtain ⟨q1, vs, q2, q3⟩ := q
                  exact ⟨q1, vs, by rw [upd_ne ne]; exact q2, q3⟩
          · exact p2.elim
    · have hi2 : i = items.length := by omega
      subst hi2
      refine .inl ⟨wk.stop _ W2 H2 M2 s2.le ok2 (Nat.le_refl _), ?_⟩
      rw [List.drop_length] at p2
      exact hfin W1 W2 H1 H2 M2 A vacc acc Q hA s2 ok2 hD hB hal racc p2
/-- the list changes later -/
def finN (ds : List D) (M : Mem) : Res VD := .ok (.adr M.length) (M ++ [.lst ds])
def e_compN := e_compG finN
theorem finN_ok (W1 W2 : Wd) (H1 H2 : Hp) (M2 : Mem) (A : Addr) (vacc : List V) (acc : List D) (Q : VK) (hA : H1 A = none) (s2 : Step W1 H1 W2 H2) (ok2 : Ok C W2 H2 M2) (hD : H2 A = some (.lst vacc)) (hB : W2.B A = none) (hal : ∀ j : Nat, W2.al[j]? ≠ some A) (r : RepA C W2.B vacc acc) (p : post C (relV C) E Q W1 H1 (finN acc M2)) : Q (.ref A) H2 := by
  obtain ⟨ok3, l3⟩ := ok2.knowM hD hB hal r
  exact p _ H2 _ (s2.knowM hA) ok3 ⟨A, rfl, by rw [← ok2.len]; simp⟩
theorem x_compN {elt tg iter : Expr} {ifs : List Expr} {scope : Scope} {own : List (Str × Nat)} {pos : Pos} {ts : List Nat} {mi : Mx (List D)} {mg mt me} (c : Cxx X C E CX k) (hi : PXI X C E tg iter mi) (ok : BlkOk X.N X.env.scope scope own)
    (hg : ∀ (s : Shared) (H : Hp) (A : Addr) (cl : List (Str × Addr)) (fp : List Addr), Cxx (X.blk s H scope (compEnvC scope cl A X.env) fp) C E0 CX k → PXG (X.blk s H scope (compEnvC scope cl A X.env) fp) C ts tg mg)
    (ht : ∀ (s : Shared) (H : Hp) (A : Addr) (cl : List (Str × Addr)) (fp : List Addr), Cxx (X.blk s H scope (compEnvC scope cl A X.env) fp) C E0 CX k → PXTs (X.blk s H scope (compEnvC scope cl A X.env) fp) C E0 ifs mt)
    (he : ∀ (s : Shared) (H : Hp) (A : Addr) (cl : List (Str × Addr)) (fp : List Addr), Cxx (X.blk s H scope (compEnvC scope cl A X.env) fp) C E0 CX k → PX (X.blk s H scope (compEnvC scope cl A X.env) fp) C E0 elt me)
    (hts : ∀ j ∈ ts, j ∈ own.map (·.2) := by decide) (hs : ∀ x, foldedSetIterable iter X.env x = pure x := by intro _; rfl) : PX X C E (.ListComp elt [⟨tg, iter, ifs, 0⟩] scope pos) (e_compN (own.map (·.2)) mi mg mt me) := by
  obtain ⟨wi, pi, si⟩ := hi
  exact ⟨_, pe_lc c.calm c.nd pi ok (fun s H A cl fp => (hg s H A cl fp (c.blk s H scope _ fp)).pg) (fun s H A cl fp => (ht s H A cl fp (c.blk s H scope _ fp)).pts) (fun s H A cl fp => (he s H A cl fp (c.blk s H scope _ fp)).pe) hs,
    sem_compG hts si (sem_tg ts mg) (sem_tt mt) (sem_te me) finN_ok⟩
theorem xs_setLcN {i : Nat} {y : Str} {py spos : Pos} {elt tg iter : Expr} {ifs : List Expr} {scope : Scope} {own : List (Str × Nat)} {pos : Pos} {ts : List Nat} {mi : Mx (List D)} {mg mt me} (c : Cxx X C E CX k) (hi : PXI X C E tg iter mi) (ok : BlkOk X.N X.env.scope scope own)
    (hg : ∀ (s : Shared) (H : Hp) (A : Addr) (cl : List (Str × Addr)) (fp : List Addr), Cxx (X.blk s H scope (compEnvC scope cl A X.env) fp) C E0 CX k → PXG (X.blk s H scope (compEnvC scope cl A X.env) fp) C ts tg mg)
    (ht : ∀ (s : Shared) (H : Hp) (A : Addr) (cl : List (Str × Addr)) (fp : List Addr), Cxx (X.blk s H scope (compEnvC scope cl A X.env) fp) C E0 CX k → PXTs (X.blk s H scope (compEnvC scope cl A X.env) fp) C E0 ifs mt)
    (he : ∀ (s : Shared) (H : Hp) (A : Addr) (cl : List (Str × Addr)) (fp : List Addr), Cxx (X.blk s H scope (compEnvC scope cl A X.env) fp) C E0 CX k → PX (X.blk s H scope (compEnvC scope cl A X.env) fp) C E0 elt me)
    (hy : X.N[i]? = some y := by rfl) (hyl : X.env.scope.names.lookup y = some .local := by rfl) (hsw : swapsWith (.ListComp elt [⟨tg, iter, ifs, 0⟩] scope pos) (some (.Name y py)) spos.line X.env = pure true := by exact sw_true rfl rfl rfl (by decide +kernel))
    (hts : ∀ j ∈ ts, j ∈ own.map (·.2) := by decide) (hs : ∀ x, foldedSetIterable iter X.env x = pure x := by intro _; rfl) : PXS X C E (.Assign [.Name y py] (.ListComp elt [⟨tg, iter, ifs, 0⟩] scope pos) spos) (s_asg (e_compN (own.map (·.2)) mi mg mt me) (g_name i)) := by
  obtain ⟨wi, pi, si⟩ := hi
  exact ⟨_, ps_setLc c.calm c.nd hy hyl hsw pi ok (fun s H A cl fp => (hg s H A cl fp (c.blk s H scope _ fp)).pg) (fun s H A cl fp => (ht s H A cl fp (c.blk s H scope _ fp)).pts) (fun s H A cl fp => (he s H A cl fp (c.blk s H scope _ fp)).pe) hs,
    sem_asg (ts := [i]) (sem_compG hts si (sem_tg ts mg) (sem_tt mt) (sem_te me) finN_ok) fun W σ H ρ M x v Q ok sl r h => h _ (sl.set r) fun vs hv => wipe_set_in (hv i (by simp))⟩
/-! isinstance(x, C), C an own class -/
structure IsC (K : PySem.W.Frag) (C : Addr) : Prop where
  cl : Cls K C
  ha : PySem.W.findIn K (.ref C) "__class__" = some (some (.builtin "object.__class__"))
  hn : PySem.W.specialIn K (.builtin "object.__class__") "__get__" = some (some (.builtin "getset_descriptor.__get__"))
  htk : PySem.W.takesIn K (.builtin "object.__class__") = some true
  hm : PySem.W.mroIn K C (.type "object") = some true
  me : PySem.W.kitOne K (.ref C) (.ref C) = some true
  non : PySem.W.kitOne K (.type "NoneType") (.ref C) = some false
  bl : PySem.W.kitOne K (.type "bool") (.ref C) = some false
  int : PySem.W.kitOne K (.type "int") (.ref C) = some false
  str : PySem.W.kitOne K (.type "str") (.ref C) = some false
  lst : PySem.W.kitOne K (.type "list") (.ref C) = some false
  tup : PySem.W.kitOne K (.type "tuple") (.ref C) = some false
theorem IsC.vt {K : PySem.W.Frag} {C : Addr} (h : IsC K C) (t : VT) : PySem.W.kitOne K (.type t.nm) (.ref C) = some false := by
  cases t
  · exact h.non
  · exact h.bl
  · exact h.int
  · exact h.str
  · exact h.lst
  · exact h.tup
def f_isC (c : Nat) (v : VD) (M : Mem) : Res VD := if isC c M v then .ok (.d (.bl true)) M else match vtOf M v with
  | some _ => .ok (.d (.bl false)) M
  | none => .fail
def e_isC (c : Nat) (m : Mx VD) : Mx VD := fun ρ M => (m ρ M).bind (f_isC c)
theorem x_isC {c : Nat} {e : Expr} {t : Str} {m : Mx VD} {p p2 pos : Pos} (hK : C.K = X.K) (ha : PX X C E e m) (hmi : X.mg "isinstance" = none) (hmt : X.mg t = some (.ref (C.ca c))) (hc : IsC X.K (C.ca c)) (hg : Gl X "isinstance" := by rfl) (hgt : Gl X t := by rfl)
    (hd : (t == ("__debug__" : Str)) = false := by decide) (he : starEach [e, .Name t p2] X.env = (false, eval e X.env) :: starEach [.Name t p2] X.env := by rfl) (he2 : starEach [.Name t p2] X.env = (false, eval (.Name t p2) X.env) :: starEach [] X.env := by rfl) (hpl : (backTo pos (starEach [.Name t p2] X.env)).any (·.1) = false := by rfl) :
    PX X C E (.Call (.Name "isinstance" p) [e, .Name t p2] [] pos) (e_isC c m) := by
  obtain ⟨ta, pa, sa⟩ := ha
  refine ⟨_, pe_callB call_isi hg hmi (by decide +kernel) (pa_cons pa (pa_cons (pe_glob (v := V.ref (C.ca c)) hgt hmt rfl hd) pa_nil he2) he) (by decide) (by decide) he hpl, fun W σ H ρ M Q ok sl p => ?_⟩
  refine sa W σ H ρ M _ ok sl (post_bind p fun a M1 W1 H1 x l1 ok1 ra p1 => ?_)
  unfold f_isC at p1
  split at p1
  · rename_i h
    obtain ⟨a, dx, vs, rfl, h1⟩ := isC_at ok1 ra h
    exact ⟨_, .ref (C.ca c), .ref (C.ca c), _, true, rfl, .own _, .base (.ins h1 hc.cl hc.ha hc.hn hc.htk hc.hm), hc.me, post_ok p1 ok1 (.bl _)⟩
  · split at p1
    · rename_i t e
      refine ⟨x, .ref (C.ca c), .type t.nm, _, false, rfl, .own _, ?_, hc.vt t, post_ok p1 ok1 (.bl _)⟩
      rw [← hK]
      exact vt_ty ok1 ra e
    · exact p1.elim
/-! a constant of a class -/
theorem x_cvalE {i : Int} {x f : Str} {a : Addr} {p pos : Pos} (hm : X.mg x = some (.ref a)) (h : ∃ mc u, ClX.CRead X.K a mc ∧ ClX.CVal X.K a mc f (.int i) u) (hg : Gl X x := by rfl) (hdb : (x == ("__debug__" : Str)) = false := by decide) (hb : attributeBase (.Name x p) f X.env (eval (.Name x p) X.env) = eval (.Name x p) X.env := by rfl) : PX X C E (.Attribute (.Name x p) f pos) (e_c (.int i)) := by
  obtain ⟨mc, u, h1, h2⟩ := h
  exact x_cval hm h1 h2 hg hdb hb
/-! list(x), which changes later -/
def f_listN : List VD → Mem → Res VD
  | [a], M => match seqOf M a with
    | some ds => .ok (.adr M.length) (M ++ [.lst ds])
    | none => .fail
  | _, _ => .fail
theorem p_listN : CallS C E (rLs C.K) f_listN := fun W H M xs as Q ok ra p => by
  unfold f_listN at p
  split at p
  · obtain ⟨x, rfl, r⟩ := ra.one
    split at p
    · rename_i ds e
      obtain ⟨q, vs, rfl, hs, hr⟩ := seq_read ok r e
      exact .inl ⟨q, vs, rfl, hs, post_lstO p ok hr⟩
    · exact p.elim
  · exact p.elim
theorem xb_listN {e : Expr} {es : List Expr} {ms : Mx (List VD)} {p pos : Pos} (c : Cxx X C E CX k) (hm : X.mg "list" = none) (ha : PXA X C E (e :: es) ms) (hg : Gl X "list" := by rfl) (he : starEach (e :: es) X.env = (false, eval e X.env) :: starEach es X.env := by rfl) (hpl : (backTo pos (starEach es X.env)).any (·.1) = false := by rfl) : PX X C E (.Call (.Name "list" p) (e :: es) [] pos) (e_bi f_listN ms) :=
  x_ty (call_list_all c.calm) (by rw [← c.K]; exact p_listN) hm boot_list ha hg (by decide) (by decide) he hpl
end
end G

namespace G
open PySem PySem.Spec PyProof.Rows L2
/-- the one class c has it at i -/
def tb (c i : Nat) : Nat → Option Nat := fun c' => if c' = c then some i else none
theorem fld_tb {C : Cf} {f : Str} {c i : Nat} (h : Fld C f c i) : ∀ c' i', tb c i c' = some i' → Fld C f c' i' := fun c' i' e => by
  unfold tb at e
  split at e
  · rename_i q
    cases e
    rw [q]
    exact h
  · cases e
theorem RepVA.three {C : Cf} {W : Wd} {xs : List V} {a b c : VD} (h : RepVA C W xs [a, b, c]) : ∃ x y z, xs = [x, y, z] ∧ RepV C W x a ∧ RepV C W y b ∧ RepV C W z c := by
  cases h with
  | cons h r =>
    obtain ⟨y, z, rfl, h2, h3⟩ := r.two
    exact ⟨_, _, _, rfl, h, h2, h3⟩
def s_par3 (i j l : Nat) (ms : Mx (List VD)) : Sx := fun ρ M => (ms ρ M).out fun vs M1 => match vs with
  | [a, b, c] => .nx (((ρ.set i (some a)).set j (some b)).set l (some c)) M1
  | _ => .fail
section
variable {X : Cx} {C : Cf} {E : XK} {CX : CXT} {k : Nat}
theorem xs_par3 {i j l : Nat} {x y z : Str} {a b e : Expr} {ms : Mx (List VD)} {px py pz pt pos : Pos} {kt k2 pt2} (c : Cxx X C E CX k) (h : PXA X C E [a, b, e] ms) (hi : X.N[i]? = some x := by rfl) (hj : X.N[j]? = some y := by rfl) (hl : X.N[l]? = some z := by rfl) (hij : i ≠ j := by decide) (hil : i ≠ l := by decide) (hjl : j ≠ l := by decide)
    (hx : X.env.scope.names.lookup x = some .local := by rfl) (hy : X.env.scope.names.lookup y = some .local := by rfl) (hz : X.env.scope.names.lookup z = some .local := by rfl) (hw : swappedStores [.Tuple [.Name x px, .Name y py, .Name z pz] kt pt] (.Tuple [a, b, e] k2 pt2) X.env = pure (some [x, y, z]) := by rfl)
    (hs : swapsWithSole [.Tuple [.Name x px, .Name y py, .Name z pz] kt pt] (.Tuple [a, b, e] k2 pt2) pos.line X.env = pure false := by rfl) : PXS X C E (.Assign [.Tuple [.Name x px, .Name y py, .Name z pz] kt pt] (.Tuple [a, b, e] k2 pt2) pos) (s_par3 i j l ms) := by
  obtain ⟨t, p, s⟩ := h
  refine ⟨_, ps_par3 c.calm c.nd hi hj hl hij hil hjl hx hy hz p hw hs, fun W σ H ρ M D ok sl q => ?_⟩
  refine s W σ H ρ M _ ok sl (post_out q fun vs M1 W1 H1 xs l1 ok1 ra p1 => ?_)
  split at p1
  · obtain ⟨x, y, z, rfl, r1, r2, r3⟩ := ra.three
    exact ⟨x, y, z, rfl, postS_nx p1 ok1 ((((sl.mono l1.le).set r1).set r2).set r3)⟩
  · exact p1.elim
end
theorem bind_star1 {B : List Value → PySem.Sem (List (Str × Value))} {p1 pv : Str} (h0 : ∀ a, B [a] = (newTuple [] >>= fun t => pure [(p1, a), (pv, t)])) (h1 : ∀ a r rs, B (a :: r :: rs) = (newTuple (r :: rs) >>= fun t => pure [(p1, a), (pv, t)])) :
    ∀ us rest : List Value, us.length = [p1].length → B (us ++ rest) = (newTuple rest >>= fun t => pure ([p1].zip us ++ [(pv, t)]))
  | [a], [], _ => h0 a
  | [a], r :: rs, _ => h1 a r rs
theorem bind_star2 {B : List Value → PySem.Sem (List (Str × Value))} {p1 p2 pv : Str} (h0 : ∀ a b, B [a, b] = (newTuple [] >>= fun t => pure [(p1, a), (p2, b), (pv, t)])) (h1 : ∀ a b r rs, B (a :: b :: r :: rs) = (newTuple (r :: rs) >>= fun t => pure [(p1, a), (p2, b), (pv, t)])) :
    ∀ us rest : List Value, us.length = [p1, p2].length → B (us ++ rest) = (newTuple rest >>= fun t => pure ([p1, p2].zip us ++ [(pv, t)]))
  | [a, b], [], _ => h0 a b
  | [a, b], r :: rs, _ => h1 a b r rs
theorem kit_ref {K : PySem.W.Frag} {C : Addr} {T : String} {dd : Option Addr} {cd : ClassData} {sl : Array (Option Value)} (h : K.lookup C = some ⟨.type "type", dd, .cls cd, sl⟩) (h3 : (PySem.fastBuiltinMro T).map (·.contains (Value.ref C)) = some false) : PySem.W.kitOne K (.type T) (.ref C) = some false := by
  unfold PySem.W.kitOne PySem.W.kitCls
  rw [if_neg (by simp)]
  dsimp only
  have h1 : PySem.W.clsIn K C = some cd := by
    unfold PySem.W.clsIn
    rw [h]
  have h2 : PySem.W.typeIn K (.ref C) = some (.type "type") := by
    unfold PySem.W.typeIn
    dsimp only
    rw [h]
    rfl
  rw [h1, h2, if_pos (by simp)]
  exact h3
theorem kit_me {K : PySem.W.Frag} {C : Addr} : PySem.W.kitOne K (.ref C) (.ref C) = some true := by
  unfold PySem.W.kitOne
  rw [if_pos (by simp)]
theorem isC_of {K : PySem.W.Frag} {C : Addr} {dd : Option Addr} {cd : ClassData} {sl : Array (Option Value)} (h : K.lookup C = some ⟨.type "type", dd, .cls cd, sl⟩) (cl : Cls K C) (ha : PySem.W.findIn K (.ref C) "__class__" = some (some (.builtin "object.__class__")))
    (hn : PySem.W.specialIn K (.builtin "object.__class__") "__get__" = some (some (.builtin "getset_descriptor.__get__"))) (htk : PySem.W.takesIn K (.builtin "object.__class__") = some true) (hm : PySem.W.mroIn K C (.type "object") = some true) : IsC K C :=
  ⟨cl, ha, hn, htk, hm, kit_me, kit_ref h rfl, kit_ref h rfl, kit_ref h rfl, kit_ref h rfl, kit_ref h rfl, kit_ref h rfl⟩
end G

/-! a look at things that change: an expression evaluated with all of them let be -/
namespace G
open PySem PySem.Spec PyProof.Rows L2
section
variable {X : Cx} {C : Cf} {E : XK} {CX : CXT} {k : Nat}
/-- a display of things that may change -/
def e_lstV (ms : Mx (List VD)) : Mx VD := fun ρ M => (ms ρ M).bind fun vs M1 => if vs.length ≤ lim then .ok (.adr M1.length) (M1 ++ [.lsv vs]) else .fail
theorem x_lstV {es : List Expr} {ms : Mx (List VD)} {pos : Pos} (h : PXA X C E es ms) : PX X C E (.List es pos) (e_lstV ms) := by
  obtain ⟨ta, pa, sa⟩ := h
  refine ⟨_, pe_lst pa, fun W σ H ρ M Q ok sl p => ?_⟩
  refine sa W σ H ρ M _ ok sl (post_bind p fun a M1 W1 H1 x l1 ok1 ra p1 => ?_)
  split at p1
  · rename_i hl
    refine ⟨by rw [ra.length]; exact lim_le hl, fun q hq => ?_⟩
    obtain ⟨ok', l⟩ := ok1.newM (o := .lst x) (m := .lsv a) hq ⟨ok1.notB hq, x, upd_same, RepVA.mono (W := W1) (W' := ⟨W1.B, W1.al ++ [q]⟩) ⟨Same.refl _, [q], rfl⟩ ra⟩
    exact p1 _ _ _ (Step.newM ok1 hq) ok' ⟨q, rfl, by rw [← ok1.len]; simp⟩
  · exact p1.elim
/-- what a value is at this moment -/
def now0 (M : Mem) : VD → Option D
  | .d x => some x
  | .adr j => match M[j]? with
    | some (.lst ds) => some (.lst ds)
    | _ => none
def nowL (M : Mem) : List VD → Option (List D)
  | [] => some []
  | v :: r => match now0 M v, nowL M r with
    | some x, some xs => some (x :: xs)
    | _, _ => none
def nowV (M : Mem) : VD → Option D
  | .d x => some x
  | .adr j => match M[j]? with
    | some (.lst ds) => some (.lst ds)
    | some (.lsv vs) => match nowL M vs with
      | some xs => some (.lst xs)
      | none => none
    | _ => none
def nowE (M : Mem) (ρ : Env) : Env := ρ.map fun o => match o with
  | some v => (nowV M v).map .d
  | none => none
/-- no thing of the heap -/
def shut : VD → Bool
  | .d .non => true
  | .d (.bl _) => true
  | .d (.int _) => true
  | .d (.str _) => true
  | _ => false
def peekK (r : Res VD) (M : Mem) : Res VD := match r with
  | .ok v _ => if shut v then .ok v M else .fail
  | _ => .fail
def e_peek (m : Mx VD) : Mx VD := fun ρ M => peekK (m (nowE M ρ) []) M
open Classical in
noncomputable def letB (W : Wd) (H : Hp) : Hp := fun a => match W.B a with
  | some o => some o
  | none => if a ∈ W.al then H a else none
theorem letB_old {W : Wd} {H : Hp} : Same W.B (letB W H) := fun a o e => by
  unfold letB
  rw [e]
theorem letB_al {W : Wd} {H : Hp} {M : Mem} (ok : Ok C W H M) {i : Nat} {a : Addr} (h : W.al[i]? = some a) : letB W H a = H a := by
  unfold letB
  cases e : W.B a with
  | some o => exact (ok.sub a o e).symm
  | none => exact if_pos (List.mem_of_getElem? h)
theorem letB_sub {W : Wd} {H : Hp} {M : Mem} (ok : Ok C W H M) : Same (letB W H) H := fun a o e => by
  unfold letB at e
  split at e
  · rename_i o' e'
    cases e
    exact ok.sub a _ e'
  · split at e
    · exact e
    · cases e
theorem letB_ok {W : Wd} {H : Hp} {M : Mem} (ok : Ok C W H M) : Ok C ⟨letB W H, []⟩ H [] := ⟨letB_sub ok, .nil, rfl, (fun i a m h _ => by cases h), ok.tab, fun q hq => by
  show letB W H q.1 = none
  unfold letB
  rw [ok.tbB q hq]
  refine if_neg fun hm => ?_
  obtain ⟨i, hi⟩ := List.mem_iff_getElem?.mp hm
  have hlt : i < M.length := by rw [← ok.len]; exact (List.getElem?_eq_some_iff.mp hi).1
  obtain ⟨m, hm2⟩ : ∃ m, M[i]? = some m := ⟨M[i], List.getElem?_eq_getElem hlt⟩
  have mk := ok.mo i _ m hi hm2
  by_cases hd : m = .dead
  · subst hd
    obtain ⟨o, e⟩ := mk
    rw [ok.tbB q hq] at e
    cases e
  · obtain ⟨u, e, p⟩ := mk.plain hd
    obtain ⟨ps, h1, _⟩ := ok.tab q hq
    exact p.1 ps (by rw [e] at h1; exact Option.some.inj h1), ok.low.trans letB_old⟩
theorem now0_ok {W : Wd} {H : Hp} {M : Mem} {x : V} {v : VD} {d : D} (ok : Ok C W H M) (r : RepV C W x v) (h : now0 M v = some d) : Rep C (letB W H) x d := by
  cases v with
  | d y =>
    cases h
    exact Rep.mono letB_old r
  | adr j =>
    obtain ⟨a, rfl, ha⟩ := r
    unfold now0 at h
    dsimp only at h
    split at h
    · rename_i ds e
      cases h
      obtain ⟨_, vs, h1, h2⟩ := ok.mo j a _ ha e
      exact Rep.lst (by rw [letB_al ok ha]; exact h1) (h2.mono letB_old)
    · cases h
theorem nowL_ok {W : Wd} {H : Hp} {M : Mem} (ok : Ok C W H M) : ∀ {xs : List V} {vs : List VD} {ds : List D}, RepVA C W xs vs → nowL M vs = some ds → RepA C (letB W H) xs ds
  | _, _, _, .nil, h => by
    cases h
    exact .nil
  | _, _, _, .cons r rs, h => by
    unfold nowL at h
    split at h
    · rename_i x xs e1 e2
      cases h
      exact .cons (now0_ok ok r e1) (nowL_ok ok rs e2)
    · cases h
theorem nowV_ok {W : Wd} {H : Hp} {M : Mem} {x : V} {v : VD} {d : D} (ok : Ok C W H M) (r : RepV C W x v) (h : nowV M v = some d) : Rep C (letB W H) x d := by
  cases v with
  | d y =>
    cases h
    exact Rep.mono letB_old r
  | adr j =>
    obtain ⟨a, rfl, ha⟩ := r
    unfold nowV at h
    dsimp only at h
    split at h
    · rename_i ds e
      cases h
      obtain ⟨_, vs, h1, h2⟩ := ok.mo j a _ ha e
      exact Rep.lst (by rw [letB_al ok ha]; exact h1) (h2.mono letB_old)
    · rename_i ws e
      split at h
      · rename_i xs e2
        cases h
        obtain ⟨_, vs, h1, h2⟩ := ok.mo j a _ ha e
        exact Rep.lst (by rw [letB_al ok ha]; exact h1) (nowL_ok ok h2 e2)
      · cases h
    · cases h
theorem nowE_ok {W : Wd} {H : Hp} {M : Mem} {σ : L2.St} {ρ : Env} (ok : Ok C W H M) (sl : Slots C W σ ρ) : Slots C ⟨letB W H, []⟩ σ (nowE M ρ) := by
  obtain ⟨hl, hs⟩ := sl
  refine ⟨by unfold nowE; rw [List.length_map]; exact hl, fun i d e => ?_⟩
  unfold nowE at e
  rw [List.getElem?_map] at e
  cases q : ρ[i]? with
  | none =>
    rw [q] at e
    cases e
  | some o =>
    rw [q] at e
    cases o with
    | none => cases e
    | some v =>
      cases q2 : nowV M v with
      | none =>
        simp [q2] at e
      | some x =>
        simp [q2] at e
        subst e
        obtain ⟨y, h1, h2⟩ := hs i v q
        exact ⟨y, h1, nowV_ok ok h2 q2⟩
theorem letB_back {W W1 : Wd} {H H1 : Hp} {M M1 : Mem} (ok : Ok C W H M) (st : Step ⟨letB W H, []⟩ H W1 H1) (ok1 : Ok C W1 H1 M1) : Step W H W H1 ∧ Ok C W H1 M := by
  have keep : ∀ (i : Nat) (a : Addr) (o : HO), W.al[i]? = some a → H a = some o → H1 a = some o := fun i a o ha ho => by
    have e : letB W H a = some o := by rw [letB_al ok ha]; exact ho
    exact ok1.sub a o (st.le.1 a o e)
  refine ⟨⟨Le.refl W, fun a o h1 h2 h3 h4 => ?_⟩, fun a o e => ok1.sub a o (st.le.1 a o (letB_old a o e)), ok.nd, ok.len, fun i a m e1 e2 => ?_, ok1.tab, ok.tbB, ok.low⟩
  · have e : letB W H a = none := by
      unfold letB
      rw [h2]
      exact if_neg fun hm => by
        obtain ⟨i, hi⟩ := List.mem_iff_getElem?.mp hm
        exact h3 i hi
    obtain ⟨q1, _, _⟩ := st.fr a o h1 e (fun i z => by cases z) h4
    exact ⟨q1, h2, h3⟩
  · have q := ok.mo i a m e1 e2
    cases m with
    | dead => exact q
    | lst ds =>
      obtain ⟨q1, vs, q2, q3⟩ := q
      exact ⟨q1, vs, keep i a _ e1 q2, q3⟩
    | ins c fs =>
      obtain ⟨q1, dx, vs, q2, q3⟩ := q
      exact ⟨q1, dx, vs, keep i a _ e1 q2, q3⟩
    | lsv ds =>
      obtain ⟨q1, vs, q2, q3⟩ := q
      exact ⟨q1, vs, keep i a _ e1 q2, q3⟩
theorem sem_peek {te : TE} {m : Mx VD} (h : Sem C E te m) : Sem C E te (e_peek m) := fun W σ H ρ M Q ok sl p => by
  refine h ⟨letB W H, []⟩ σ H (nowE M ρ) [] _ (letB_ok ok) (nowE_ok ok sl) ?_
  unfold e_peek at p
  cases q : m (nowE M ρ) [] with
  | fail =>
    rw [q] at p
    exact p.elim
  | exc c fs M1 =>
    rw [q] at p
    exact p.elim
  | ok v M1 =>
    rw [q] at p
    intro W1 H1 x st ok1 rv
    obtain ⟨s2, ok2⟩ := letB_back ok st ok1
    have p : post C (relV C) E Q W H (if shut v then .ok v M else .fail) := p
    split at p
    · rename_i hs
      refine p _ _ _ s2 ok2 ?_
      cases v with
      | adr _ => cases hs
      | d y =>
        cases y with
        | non => cases inv_non rv; exact Rep.non
        | bl b => cases inv_bl rv; exact Rep.bl b
        | int b => cases inv_int rv; exact Rep.int b
        | str b => cases inv_str rv; exact Rep.str b
        | lst _ => cases hs
        | tup _ => cases hs
        | obj _ _ => cases hs
        | scr _ => cases hs
        | clo _ => cases hs
        | exn _ _ => cases hs
        | pv _ => cases hs
    · exact p.elim
theorem x_peek {e : Expr} {m : Mx VD} (h : PX X C E e m) : PX X C E e (e_peek m) := by
  obtain ⟨te, pe, se⟩ := h
  exact ⟨te, pe, sem_peek se⟩
end
end G

/-! bool(x) of an object with its own __bool__ -/
namespace G
open PySem PySem.Spec PyProof.Rows L2
theorem new_bool {prog : Program} {w : World} (x : Value) : MeetsIn prog w (Builtin.«bool.__new__» ⟨[.type "bool", x], []⟩)
    (fun A R s => wpAny (model prog w) A.in1 (truthy x) (fun b s1 => R (.ok (.ret (.bool b))) s1) (fun e s1 => R (.error e) s1) s) :=
  .of_wp fun A R s h => by
    have tr : ∀ Q : Bool → Shared → Prop, (∀ b s1, R (.ok (.ret (.bool b))) s1 → Q b s1) → wpAny (model prog w) A.in1 (truthy x) Q (fun e s1 => R (.error e) s1) s := fun Q hq => wpAny_mono h hq fun _ _ z => z
    have f1 := F.conv_sub_bool
    repeat (any_goals (first | assumption | (with_reducible refine tr _ fun b s1 hb => ?_) | wp_step))
    all_goals first | exact ⟨_, rfl, ‹_›⟩ | skip
theorem call_boolA {prog : Program} {w : World} {A : Around} {E : Value → Shared → Prop} {s : Shared} {x : Value} {Q : Value → Shared → Prop} (h : wpAny (model prog w) A.in1.in1 (truthy x) (fun b s1 => Q (.bool b) s1) E s) : wpAny (model prog w) A (call (.type "bool") [x]) Q E s := by
  refine callType_newIn F.called_bool F.newNe_bool (F.typeCall_bool_1 x) (F.newCall_bool_1 x) (fun obj => F.args_object_init_2 obj x) F.entry_bool_new (new_bool x) ?_
  exact wpAny_mono h (fun b s1 q => ⟨rfl, q⟩) fun _ _ z => z
section
variable {X : Cx} {C : Cf} {E : XK} {CX : CXT} {k : Nat}
theorem cr_boolO {c j : Nat} {m} (cx : Cxx X C E CX k) (F : OwnOk X.prog X.w X.K X.mg X.base CX C c "__bool__" j m) (hj : j + 2 ≤ k) : CallR X (.type "bool") (rOwn C c 1 m E (tBl false)) := by
  intro pins s σ H xs us Q I r h
  obtain ⟨a, dx, fs, l, rfl, ha, h1, sp⟩ := h
  obtain ⟨f, F, hs, hf⟩ := F.ex
  obtain rfl : l = [] := by simpa using h1
  obtain ⟨u, rfl, rx⟩ := vals1 r
  cases rx
  obtain ⟨mA, J, _⟩ := ins_get I.hok ha
  obtain ⟨od, J, _⟩ := J.look
  obtain ⟨m', hF⟩ := I.fr
  have sb := (cx.sub.mono hj).in1.in1
  refine call_boolA (PySem.W.truthy_K hF I.ok.mod.kin J hs hf (wpAny_mono (own_run sb F cx.pas I r sp) (fun u s' q => ?_) fun _ _ z => z))
  obtain ⟨v, H', I', rv, b, rfl, q⟩ := q
  cases rv
  exact ⟨.bl (b != false), H', I', by simp only [Bool.bne_false]; exact rfl, q⟩
theorem boot_bool : bootBuiltins "bool" = some (.type "bool") := by decide +kernel
theorem xb_boolO {c j : Nat} {m} {e : Expr} {es : List Expr} {ms : Mx (List VD)} {p pos : Pos} (cx : Cxx X C E CX k) (hm : X.mg "bool" = none) (F : OwnOk X.prog X.w X.K X.mg X.base CX C c "__bool__" j m) (ha : PXA X C E (e :: es) ms) (hj : j + 2 ≤ k := by decide) (hg : Gl X "bool" := by rfl)
    (he : starEach (e :: es) X.env = (false, eval e X.env) :: starEach es X.env := by rfl) (hpl : (backTo pos (starEach es X.env)).any (·.1) = false := by rfl) : PX X C E (.Call (.Name "bool" p) (e :: es) [] pos) (e_bi (f_own c 1 m (ckBl false)) ms) :=
  x_ty (cr_boolO cx F hj) (p_own ck_bl) hm boot_bool ha hg (by decide) (by decide) he hpl
end
end G

/-! comprehensions with two fors -/
namespace G
open PySem PySem.Spec PyProof.Rows L2
section
variable {X : Cx} {C : Cf} {E : XK} {CX : CXT} {k : Nat}
def comp2 (vs vs1 : List Nat) (mg : VD → Env → Option Env) (mt : Mx Bool) (mi1 : Mx (List D)) (mg1 : VD → Env → Option Env) (mt1 : Mx Bool) (me : Mx VD) (ρ : Env) : List D → Mem → List D → Res (List D)
  | [], M, acc => .ok acc M
  | x :: xs, M, acc => match mg (.d x) (wipeE ρ vs) with
    | none => .fail
    | some ρ2 => match mt ρ2 M with
      | .ok true M2 => match mi1 ρ2 M2 with
        | .ok items1 M3 => match compL (cTurn vs1 mg1 mt1 me ρ2) items1 M3 acc with
          | .ok acc' M4 => comp2 vs vs1 mg mt mi1 mg1 mt1 me ρ xs M4 acc'
          | _ => .fail
        | _ => .fail
      | .ok false M2 => comp2 vs vs1 mg mt mi1 mg1 mt1 me ρ xs M2 acc
      | _ => .fail
def finD (ds : List D) (M : Mem) : Res VD := .ok (.d (.lst ds)) M
theorem finD_ok (W1 W2 : Wd) (H1 H2 : Hp) (M2 : Mem) (A : Addr) (vacc : List V) (acc : List D) (Q : VK) (hA : H1 A = none) (s2 : Step W1 H1 W2 H2) (ok2 : Ok C W2 H2 M2) (hD : H2 A = some (.lst vacc)) (hB : W2.B A = none) (hal : ∀ j : Nat, W2.al[j]? ≠ some A) (r : RepA C W2.B vacc acc) (p : post C (relV C) E Q W1 H1 (finD acc M2)) : Q (.ref A) H2 := by
  obtain ⟨ok6, l6⟩ := ok2.know hD hB hal (tab_nlst ok2.tab hD)
  exact p _ H2 _ (s2.put hA hB) ok6 (Rep.lst (by show upd W2.B A _ A = _; rw [upd_same]) (r.mono l6.1))
def e_comp2 (fin : List D → Mem → Res VD) (vs vs1 : List Nat) (mi : Mx (List D)) (mg : VD → Env → Option Env) (mt : Mx Bool) (mi1 : Mx (List D)) (mg1 : VD → Env → Option Env) (mt1 : Mx Bool) (me : Mx VD) : Mx VD := fun ρ M => (mi ρ M).bind fun items M1 => (comp2 vs vs1 mg mt mi1 mg1 mt1 me ρ items M1 []).bind fin
theorem sem_comp2 {fin : List D → Mem → Res VD} {wi wi1 : TI} {g g1 : TG} {tt tt1 : TT} {te : TE} {vs ts vs1 ts1 : List Nat} {mi mg mt mi1 mg1 mt1 me} (hts : ∀ j ∈ ts, j ∈ vs) (hts1 : ∀ j ∈ ts1, j ∈ vs1) (si : SemI C E wi mi) (sg : SemG C ts g mg) (st : SemT C E0 tt mt) (si1 : SemI C E0 wi1 mi1) (sg1 : SemG C ts1 g1 mg1) (st1 : SemT C E0 tt1 mt1) (se : Sem C E0 te me)
    (hfin : ∀ (W1 W2 : Wd) (H1 H2 : Hp) (M2 : Mem) (A : Addr) (vacc : List V) (acc : List D) (Q : VK), H1 A = none → Step W1 H1 W2 H2 → Ok C W2 H2 M2 → H2 A = some (.lst vacc) → W2.B A = none → (∀ j : Nat, W2.al[j]? ≠ some A) → RepA C W2.B vacc acc → post C (relV C) E Q W1 H1 (fin acc M2) → Q (.ref A) H2) :
    Sem C E (tLc2 wi g tt wi1 g1 tt1 te vs vs1) (e_comp2 fin vs vs1 mi mg mt mi1 mg1 mt1 me) := fun W σ H ρ M Q ok sl p => by
  refine si W σ H ρ M _ ok sl (post_bind p fun items M1 W1 H1 J l1 ok1 wk p1 => ?_)
  intro A hA
  refine ⟨fun i m H2 => m = items.length - i ∧ i ≤ items.length ∧ ∃ (W2 : Wd) (M2 : Mem) (vacc : List V) (acc : List D), Step W1 H1 W2 H2 ∧ Ok C W2 H2 M2 ∧ H2 A = some (.lst vacc) ∧ W2.B A = none ∧ (∀ j : Nat, W2.al[j]? ≠ some A) ∧ RepA C W2.B vacc acc ∧
    post C (relV C) E Q W1 H1 ((comp2 vs vs1 mg mt mi1 mg1 mt1 me ρ (items.drop i) M2 acc).bind fin), ?_, ?_⟩
  · refine ⟨_, rfl, Nat.zero_le _, W1, M1, [], [], Step.grow hA, ok1.grow (same_upd hA), upd_same, ok1.notB hA, fun j e => ok1.ne hA e rfl, .nil, ?_⟩
    rw [List.drop_zero]
    exact p1
  · rintro i m H2 ⟨rfl, hi, W2, M2, vacc, acc, s2, ok2, hD, hB, hal, racc, p2⟩
    by_cases hlt : i < items.length
    · refine .inr ⟨wk.go i W2 H2 M2 s2.le ok2 hlt, fun H' => ∃ m', m' < items.length - i ∧ (m' = items.length - (i + 1) ∧ i + 1 ≤ items.length ∧ ∃ (W2 : Wd) (M2 : Mem) (vacc : List V) (acc : List D), Step W1 H1 W2 H' ∧ Ok C W2 H' M2 ∧ H' A = some (.lst vacc) ∧ W2.B A = none ∧ (∀ j : Nat, W2.al[j]? ≠ some A) ∧ RepA C W2.B vacc acc ∧
        post C (relV C) E Q W1 H1 ((comp2 vs vs1 mg mt mi1 mg1 mt1 me ρ (items.drop (i + 1)) M2 acc).bind fin)), fun H' h => h, fun x H3 y => ?_⟩
      obtain ⟨W3, d, hd, s3, ok3, rx⟩ := wk.yld i W2 H2 M2 x H3 s2.le ok2 hlt y
      obtain ⟨hD3, hB3, hal3⟩ := s3.fr A _ hD hB hal nt_lst
      have e : items.drop i = d :: items.drop (i + 1) := by
        rw [List.drop_eq_getElem_cons hlt]
        have := (List.getElem?_eq_some_iff.mp hd).2
        rw [this]
      rw [e] at p2
      simp only [comp2] at p2
      have sl3 := ((sl.mono l1.le).mono s2.le).mono s3.le
      refine sg W3 (L2.wipe σ vs) H3 (wipeE ρ vs) M2 x (.d d) _ ok3 (sl3.wipe vs) rx ?_
      cases q : mg (.d d) (wipeE ρ vs) with
      | none =>
        rw [q] at p2
        exact p2.elim
      | some ρ2 =>
      rw [q] at p2
      dsimp only at p2 ⊢
      intro σ2 sl4 w4
      refine ⟨by rw [w4 vs hts, wipe_idem fun j h => h], ?_⟩
      refine st W3 σ2 H3 ρ2 M2 _ ok3 sl4 ?_
      cases q2 : mt ρ2 M2 with
      | fail => rw [q2] at p2; exact p2.elim
      | exc _ _ _ => rw [q2] at p2; exact p2.elim
      | ok bb M4 =>
      rw [q2] at p2
      intro W4 H4 b' s4 ok4 eb
      obtain ⟨hD4, hB4, hal4⟩ := s4.fr A _ hD3 hB3 hal3 nt_lst
      cases eb
      have racc4 := (racc.mono s3.le.1).mono s4.le.1
      cases bb with
      | false =>
        show ∃ m', _
        exact ⟨_, by omega, rfl, hlt, W4, M4, vacc, acc, (s2.trans s3).trans s4, ok4, hD4, hB4, hal4, racc4, p2⟩
      | true =>
      dsimp only at p2
      show wi1 σ2 H4 _
      have sl5 := sl4.mono s4.le
      refine si1 W4 σ2 H4 ρ2 M4 _ ok4 sl5 ?_
      cases q3 : mi1 ρ2 M4 with
      | fail => rw [q3] at p2; exact p2.elim
      | exc _ _ _ => rw [q3] at p2; exact p2.elim
      | ok items1 M5 =>
      rw [q3] at p2
      dsimp only at p2
      intro W5 H5 J1 s5 ok5 wk1
      obtain ⟨hD5, hB5, hal5⟩ := s5.fr A _ hD4 hB4 hal4 nt_lst
      have racc5 := racc4.mono s5.le.1
      have sl6 := sl5.mono s5.le
      have t5 := (((s2.trans s3).trans s4).trans s5)
      -- what follows the inner loop
      let fol : Res (List D) → Res VD := fun r => (match r with
        | .ok acc' M4 => comp2 vs vs1 mg mt mi1 mg1 mt1 me ρ (items.drop (i + 1)) M4 acc'
        | _ => .fail).bind fin
      have p2 : post C (relV C) E Q W1 H1 (fol (compL (cTurn vs1 mg1 mt1 me ρ2) items1 M5 acc)) := p2
      refine ⟨fun j kk H6 => kk = items1.length - j ∧ j ≤ items1.length ∧ ∃ (W6 : Wd) (M6 : Mem) (vacc : List V) (acc : List D), Step W1 H1 W6 H6 ∧ Le W5 W6 ∧ Ok C W6 H6 M6 ∧ H6 A = some (.lst vacc) ∧ W6.B A = none ∧ (∀ j : Nat, W6.al[j]? ≠ some A) ∧ RepA C W6.B vacc acc ∧
        post C (relV C) E Q W1 H1 (fol (compL (cTurn vs1 mg1 mt1 me ρ2) (items1.drop j) M6 acc)), ?_, ?_⟩
      · exact ⟨_, rfl, Nat.zero_le _, W5, M5, vacc, acc, t5, Le.refl _, ok5, hD5, hB5, hal5, racc5, by rw [List.drop_zero]; exact p2⟩
      · rintro j kk H6 ⟨rfl, hj, W6, M6, vacc, acc, s6, l6, ok6, hD6, hB6, hal6, racc6, p6⟩
        by_cases hltj : j < items1.length
        · refine .inr ⟨wk1.go j W6 H6 M6 l6 ok6 hltj, fun H' => ∃ k', k' < items1.length - j ∧ (k' = items1.length - (j + 1) ∧ j + 1 ≤ items1.length ∧ ∃ (W6 : Wd) (M6 : Mem) (vacc : List V) (acc : List D), Step W1 H1 W6 H' ∧ Le W5 W6 ∧ Ok C W6 H' M6 ∧ H' A = some (.lst vacc) ∧ W6.B A = none ∧ (∀ j : Nat, W6.al[j]? ≠ some A) ∧ RepA C W6.B vacc acc ∧
            post C (relV C) E Q W1 H1 (fol (compL (cTurn vs1 mg1 mt1 me ρ2) (items1.drop (j + 1)) M6 acc))), fun H' h => h, fun x1 H7 y1 => ?_⟩
          obtain ⟨W7, d1, hd1, s7, ok7, rx1⟩ := wk1.yld j W6 H6 M6 x1 H7 l6 ok6 hltj y1
          obtain ⟨hD7, hB7, hal7⟩ := s7.fr A _ hD6 hB6 hal6 nt_lst
          have e1 : items1.drop j = d1 :: items1.drop (j + 1) := by
            rw [List.drop_eq_getElem_cons hltj]
            have := (List.getElem?_eq_some_iff.mp hd1).2
            rw [this]
          rw [e1] at p6
          simp only [compL] at p6
          have sl7 := (sl6.mono l6).mono s7.le
          refine sg1 W7 (L2.wipe σ2 vs1) H7 (wipeE ρ2 vs1) M6 x1 (.d d1) _ ok7 (sl7.wipe vs1) rx1 ?_
          cases q0 : cTurn vs1 mg1 mt1 me ρ2 d1 M6 with
          | fail =>
            rw [q0] at p6
            exact p6.elim
          | exc _ _ _ =>
            rw [q0] at p6
            exact p6.elim
          | ok o M8 =>
            rw [q0] at p6
            cases o with
            | none =>
              obtain ⟨ρ3, q, q2⟩ := cTurn_none q0
              rw [q]
              intro σ3 sl8 w8
              refine ⟨by rw [w8 vs1 hts1, wipe_idem fun j h => h], ?_⟩
              refine st1 W7 σ3 H7 ρ3 M6 _ ok7 sl8 ?_
              rw [q2]
              intro W8 H8 b' s8 ok8 eb
              obtain ⟨hD8, hB8, hal8⟩ := s8.fr A _ hD7 hB7 hal7 nt_lst
              cases eb
              show ∃ m', _
              exact ⟨_, by omega, rfl, hltj, W8, M8, vacc, acc, (s6.trans s7).trans s8, (l6.trans s7.le).trans s8.le, ok8, hD8, hB8, hal8, (racc6.mono s7.le.1).mono s8.le.1, p6⟩
            | some z =>
              obtain ⟨ρ3, M7, q, q2, q3⟩ := cTurn_some q0
              rw [q]
              intro σ3 sl8 w8
              refine ⟨by rw [w8 vs1 hts1, wipe_idem fun j h => h], ?_⟩
              refine st1 W7 σ3 H7 ρ3 M6 _ ok7 sl8 ?_
              rw [q2]
              intro W8 H8 b' s8 ok8 eb
              obtain ⟨hD8, hB8, hal8⟩ := s8.fr A _ hD7 hB7 hal7 nt_lst
              cases eb
              show te σ3 H8 _
              refine se W8 σ3 H8 ρ3 M7 _ ok8 (sl8.mono s8.le) ?_
              rw [q3]
              intro W9 H9 y9 s9 ok9 r9
              obtain ⟨hD9, hB9, hal9⟩ := s9.fr A _ hD8 hB8 hal8 nt_lst
              have p6 : post C (relV C) E Q W1 H1 (fol (if acc.length < lim then compL (cTurn vs1 mg1 mt1 me ρ2) (items1.drop (j + 1)) M8 (acc ++ [z]) else Res.fail)) := p6
              split at p6
              · rename_i hl
                have racc9 : RepA C W9.B vacc acc := ((racc6.mono s7.le.1).mono s8.le.1).mono s9.le.1
                refine ⟨vacc, hD9, by rw [racc6.length]; exact lim_lt hl, _, by omega, rfl, hltj, W9, M8, vacc ++ [y9], acc ++ [z], ?_, ((l6.trans s7.le).trans s8.le).trans s9.le, ?_, upd_same, hB9, hal9, racc9.append (.cons r9 .nil), p6⟩
                · have sx := (((s6.trans s7).trans s8).trans s9)
                  refine ⟨sx.le, fun a o h1 h2 h3 h4 => ?_⟩
                  obtain ⟨q1, q2, q3⟩ := sx.fr a o h1 h2 h3 h4
                  exact ⟨by rw [upd_ne (ne_of_none h1 hA)]; exact q1, q2, q3⟩
                · refine ⟨fun b u e => ?_, ok9.nd, ok9.len, fun j b n e1 e2 => ?_, tabs_write ok9.tab hD9 plain_lst, ok9.tbB, ok9.low⟩
                  · rw [upd_ne (ne_of_none e hB9)]
                    exact ok9.sub b u e
                  · have ne : b ≠ A := fun q => hal9 j (by rw [← q]; exact e1)
                    have q := ok9.mo j b n e1 e2
                    cases n with
                    | dead => exact q
                    | lst ds =>
                      obtain ⟨q1, vs, q2, q3⟩ := q
                      exact ⟨q1, vs, by rw [upd_ne ne]; exact q2, q3⟩
                    | ins c fs =>
                      obtain ⟨q1, dx, vs, q2, q3⟩ := q
                      exact ⟨q1, dx, vs, by rw [upd_ne ne]; exact q2, q3⟩
                    | lsv ds =>
                      obtain ⟨q1, vs, q2, q3⟩ := q
                      exact ⟨q1, vs, by rw [upd_ne ne]; exact q2, q3⟩
              · exact p6.elim
        · have hj2 : j = items1.length := by omega
          subst hj2
          rw [List.drop_length] at p6
          refine .inl ⟨wk1.stop _ W6 H6 M6 l6 ok6 (Nat.le_refl _), _, by omega, rfl, hlt, W6, M6, vacc, acc, s6, ok6, hD6, hB6, hal6, racc6, p6⟩
    · have hi2 : i = items.length := by omega
      subst hi2
      refine .inl ⟨wk.stop _ W2 H2 M2 s2.le ok2 (Nat.le_refl _), ?_⟩
      rw [List.drop_length] at p2
      exact hfin W1 W2 H1 H2 M2 A vacc acc Q hA s2 ok2 hD hB hal racc p2
def tiOf (C : Cf) (E : XK) (m : Mx (List D)) : TI := fun σ H R => ∃ W ρ M, Ok C W H M ∧ Slots C W σ ρ ∧ post C (relI C) E R W H (m ρ M)
theorem PXI.pi {tg iter : Expr} {m : Mx (List D)} (h : PXI X C E tg iter m) : PI X tg iter (tiOf C E m) := by
  obtain ⟨te, p, s⟩ := h
  exact ⟨fun pins s1 σ H Q I ⟨W, ρ, M, ok, sl, q⟩ => p.run pins s1 σ H Q I (s W σ H ρ M Q ok sl q)⟩
theorem sem_ti (m : Mx (List D)) : SemI C E (tiOf C E m) m := fun W σ H ρ M Q ok sl p => ⟨W, ρ, M, ok, sl, p⟩
theorem x_comp2 {elt tg iter tg1 iter1 : Expr} {ifs ifs1 : List Expr} {scope : Scope} {own : List (Str × Nat)} {pos : Pos} {ts ts1 vs1 : List Nat} {mi mi1 : Mx (List D)} {mg mt mg1 mt1 me} (c : Cxx X C E CX k) (hi : PXI X C E tg iter mi) (ok : BlkOk X.N X.env.scope scope own)
    (hg : ∀ (s : Shared) (H : Hp) (A : Addr) (cl : List (Str × Addr)) (fp : List Addr), Cxx (X.blk s H scope (compEnvC scope cl A X.env) fp) C E0 CX k → PXG (X.blk s H scope (compEnvC scope cl A X.env) fp) C ts tg mg)
    (ht : ∀ (s : Shared) (H : Hp) (A : Addr) (cl : List (Str × Addr)) (fp : List Addr), Cxx (X.blk s H scope (compEnvC scope cl A X.env) fp) C E0 CX k → PXTs (X.blk s H scope (compEnvC scope cl A X.env) fp) C E0 ifs mt)
    (hi1 : ∀ (s : Shared) (H : Hp) (A : Addr) (cl : List (Str × Addr)) (fp : List Addr), Cxx (X.blk s H scope (compEnvC scope cl A X.env) fp) C E0 CX k → PXI (X.blk s H scope (compEnvC scope cl A X.env) fp) C E0 tg1 iter1 mi1)
    (hg1 : ∀ (s : Shared) (H : Hp) (A : Addr) (cl : List (Str × Addr)) (fp : List Addr), Cxx (X.blk s H scope (compEnvC scope cl A X.env) fp) C E0 CX k → PXG (X.blk s H scope (compEnvC scope cl A X.env) fp) C ts1 tg1 mg1)
    (ht1 : ∀ (s : Shared) (H : Hp) (A : Addr) (cl : List (Str × Addr)) (fp : List Addr), Cxx (X.blk s H scope (compEnvC scope cl A X.env) fp) C E0 CX k → PXTs (X.blk s H scope (compEnvC scope cl A X.env) fp) C E0 ifs1 mt1)
    (he : ∀ (s : Shared) (H : Hp) (A : Addr) (cl : List (Str × Addr)) (fp : List Addr), Cxx (X.blk s H scope (compEnvC scope cl A X.env) fp) C E0 CX k → PX (X.blk s H scope (compEnvC scope cl A X.env) fp) C E0 elt me)
    (hts : ∀ j ∈ ts, j ∈ own.map (·.2) := by decide) (hts1 : ∀ j ∈ ts1, j ∈ vs1 := by decide) (hv : ∀ i ∈ vs1, i ∈ own.map (·.2) := by decide) (hs : ∀ x, foldedSetIterable iter X.env x = pure x := by intro _; rfl) (hs1 : ∀ env x, foldedSetIterable iter1 env x = pure x := by intro _ _; rfl) :
    PX X C E (.ListComp elt [⟨tg, iter, ifs, 0⟩, ⟨tg1, iter1, ifs1, 0⟩] scope pos) (e_comp2 finD (own.map (·.2)) vs1 mi mg mt mi1 mg1 mt1 me) := by
  obtain ⟨wi, pi, si⟩ := hi
  exact ⟨_, pe_lc2 c.calm c.nd pi ok hv (fun s H A cl fp => (hg s H A cl fp (c.blk s H scope _ fp)).pg) (fun s H A cl fp => (ht s H A cl fp (c.blk s H scope _ fp)).pts) (fun s H A cl fp => (hi1 s H A cl fp (c.blk s H scope _ fp)).pi) (fun s H A cl fp => (hg1 s H A cl fp (c.blk s H scope _ fp)).pg) (fun s H A cl fp => (ht1 s H A cl fp (c.blk s H scope _ fp)).pts) (fun s H A cl fp => (he s H A cl fp (c.blk s H scope _ fp)).pe) hs hs1,
    sem_comp2 hts hts1 si (sem_tg ts mg) (sem_tt mt) (sem_ti mi1) (sem_tg ts1 mg1) (sem_tt mt1) (sem_te me) finD_ok⟩
theorem xs_setLc2 {i : Nat} {y : Str} {py spos : Pos} {elt tg iter tg1 iter1 : Expr} {ifs ifs1 : List Expr} {scope : Scope} {own : List (Str × Nat)} {pos : Pos} {ts ts1 vs1 : List Nat} {mi mi1 : Mx (List D)} {mg mt mg1 mt1 me} (c : Cxx X C E CX k) (hi : PXI X C E tg iter mi) (ok : BlkOk X.N X.env.scope scope own)
    (hg : ∀ (s : Shared) (H : Hp) (A : Addr) (cl : List (Str × Addr)) (fp : List Addr), Cxx (X.blk s H scope (compEnvC scope cl A X.env) fp) C E0 CX k → PXG (X.blk s H scope (compEnvC scope cl A X.env) fp) C ts tg mg)
    (ht : ∀ (s : Shared) (H : Hp) (A : Addr) (cl : List (Str × Addr)) (fp : List Addr), Cxx (X.blk s H scope (compEnvC scope cl A X.env) fp) C E0 CX k → PXTs (X.blk s H scope (compEnvC scope cl A X.env) fp) C E0 ifs mt)
    (hi1 : ∀ (s : Shared) (H : Hp) (A : Addr) (cl : List (Str × Addr)) (fp : List Addr), Cxx (X.blk s H scope (compEnvC scope cl A X.env) fp) C E0 CX k → PXI (X.blk s H scope (compEnvC scope cl A X.env) fp) C E0 tg1 iter1 mi1)
    (hg1 : ∀ (s : Shared) (H : Hp) (A : Addr) (cl : List (Str × Addr)) (fp : List Addr), Cxx (X.blk s H scope (compEnvC scope cl A X.env) fp) C E0 CX k → PXG (X.blk s H scope (compEnvC scope cl A X.env) fp) C ts1 tg1 mg1)
    (ht1 : ∀ (s : Shared) (H : Hp) (A : Addr) (cl : List (Str × Addr)) (fp : List Addr), Cxx (X.blk s H scope (compEnvC scope cl A X.env) fp) C E0 CX k → PXTs (X.blk s H scope (compEnvC scope cl A X.env) fp) C E0 ifs1 mt1)
    (he : ∀ (s : Shared) (H : Hp) (A : Addr) (cl : List (Str × Addr)) (fp : List Addr), Cxx (X.blk s H scope (compEnvC scope cl A X.env) fp) C E0 CX k → PX (X.blk s H scope (compEnvC scope cl A X.env) fp) C E0 elt me)
    (hy : X.N[i]? = some y := by rfl) (hyl : X.env.scope.names.lookup y = some .local := by rfl) (hsw : swapsWith (.ListComp elt [⟨tg, iter, ifs, 0⟩, ⟨tg1, iter1, ifs1, 0⟩] scope pos) (some (.Name y py)) spos.line X.env = pure true := by exact sw_true rfl rfl rfl (by decide +kernel))
    (hts : ∀ j ∈ ts, j ∈ own.map (·.2) := by decide) (hts1 : ∀ j ∈ ts1, j ∈ vs1 := by decide) (hv : ∀ i ∈ vs1, i ∈ own.map (·.2) := by decide) (hs : ∀ x, foldedSetIterable iter X.env x = pure x := by intro _; rfl) (hs1 : ∀ env x, foldedSetIterable iter1 env x = pure x := by intro _ _; rfl) :
    PXS X C E (.Assign [.Name y py] (.ListComp elt [⟨tg, iter, ifs, 0⟩, ⟨tg1, iter1, ifs1, 0⟩] scope pos) spos) (s_asg (e_comp2 finD (own.map (·.2)) vs1 mi mg mt mi1 mg1 mt1 me) (g_name i)) := by
  obtain ⟨wi, pi, si⟩ := hi
  exact ⟨_, ps_setLc2 c.calm c.nd hy hyl hsw pi ok hv (fun s H A cl fp => (hg s H A cl fp (c.blk s H scope _ fp)).pg) (fun s H A cl fp => (ht s H A cl fp (c.blk s H scope _ fp)).pts) (fun s H A cl fp => (hi1 s H A cl fp (c.blk s H scope _ fp)).pi) (fun s H A cl fp => (hg1 s H A cl fp (c.blk s H scope _ fp)).pg) (fun s H A cl fp => (ht1 s H A cl fp (c.blk s H scope _ fp)).pts) (fun s H A cl fp => (he s H A cl fp (c.blk s H scope _ fp)).pe) hs hs1,
    sem_asg (ts := [i]) (sem_comp2 hts hts1 si (sem_tg ts mg) (sem_tt mt) (sem_ti mi1) (sem_tg ts1 mg1) (sem_tt mt1) (sem_te me) finD_ok) fun W σ H ρ M x v Q ok sl r h => h _ (sl.set r) fun vs hv => wipe_set_in (hv i (by simp))⟩
end
end G

/-! x.clear() -/
namespace G
open PySem PySem.Spec PyProof.Rows L2
section
variable {X : Cx} {C : Cf} {E : XK} {CX : CXT} {k : Nat}
def f_clr (x : VD) (M : Mem) : Res VD := match x with
  | .adr j => match M[j]? with
    | some (.lst _) => .ok (.d .non) (M.set j (.lst []))
    | _ => .fail
  | _ => .fail
def e_clr (a : Mx VD) : Mx VD := fun ρ M => (a ρ M).bind f_clr
theorem x_clr {o : Expr} {a : Mx VD} {apos cpos : Pos} (ha : PX X C E o a) (hbase : attributeBase o "clear" X.env (eval o X.env) = eval o X.env := by rfl) (hline : (apos.endLine == cpos.line) = true := by rfl) : PX X C E (.Call (.Attribute o "clear" apos) [] [] cpos) (e_clr a) := by
  obtain ⟨ta, pa, sa⟩ := ha
  refine ⟨_, pe_bm0 PySem.F.plainAttrs_list PySem.F.slot_list_clear PySem.F.type_list_clear mt_clear pa hbase hline, fun W σ H ρ M Q ok sl p => ?_⟩
  refine sa W σ H ρ M _ ok sl (post_bind p fun x M1 W1 H1 vx l1 ok1 ra p1 => ?_)
  unfold f_clr at p1
  split at p1
  · rename_i j
    split at p1
    · rename_i ds e
      obtain ⟨q, rfl, hq⟩ := (show RepV C W1 vx (.adr j) from ra)
      obtain ⟨hB, vs, h1, h2⟩ := ok1.mo j _ _ hq e
      refine ⟨.inl ⟨rfl, _, SqL.of h1⟩, q, vs, rfl, rfl, h1, ?_⟩
      have ok3 := ok1.write (o := .lst []) (m := .lst []) hq e (fun z => by cases z) ⟨hB, _, upd_same, .nil⟩
      exact p1 _ _ _ (Step.write hq) ok3 (show Rep C W1.B V.non D.non from .non)
    · exact p1.elim
  · exact p1.elim
end
end G

/-! list(range(n)); x.insert(i, v); list * int, which changes later -/
namespace G
open PySem PySem.Spec PyProof.Rows L2
section
variable {X : Cx} {C : Cf} {E : XK} {CX : CXT} {k : Nat}
noncomputable def f_lrg (v : VD) (M : Mem) : Res VD := match v with
  | .d (.int j) => gi (0 ≤ j ∧ j ≤ 1000000) (.ok (.d (.lst (range 0 j.toNat))) M) .fail
  | _ => .fail
noncomputable def e_lrg (m : Mx VD) : Mx VD := fun ρ M => (m ρ M).bind f_lrg
theorem repA_range {B : Hp} (j : Int) : RepA C B (rgV 0 j) (range 0 (j - 0).toNat) := by
  unfold rgV range
  generalize List.range (j - 0).toNat = l
  induction l with
  | nil => exact .nil
  | cons x l ih => exact .cons (.int _) ih
theorem x_lrg {a : Expr} {m : Mx VD} {p p2 pos pos2 : Pos} (c : Cxx X C E CX k) (hm : X.mg "list" = none) (hm2 : X.mg "range" = none) (ha : PX X C E a m) (hg : Gl X "list" := by rfl) (hg2 : Gl X "range" := by rfl) (na : starEach [a] X.env = (false, eval a X.env) :: starEach [] X.env := by rfl) (na2 : starEach [.Call (.Name "range" p2) [a] [] pos2] X.env = (false, eval (.Call (.Name "range" p2) [a] [] pos2) X.env) :: starEach [] X.env := by rfl) :
    PX X C E (.Call (.Name "list" p) [.Call (.Name "range" p2) [a] [] pos2] [] pos) (e_lrg m) := by
  obtain ⟨ta, pa, sa⟩ := ha
  refine ⟨_, pe_listRg c.calm hg hm (prg_1 hg2 hm2 pa na) na2, fun W σ H ρ M Q ok sl p => ?_⟩
  refine sa W σ H ρ M _ ok sl (post_bind p fun v M1 W1 H1 x l1 ok1 rv p1 => ?_)
  unfold f_lrg at p1
  split at p1
  · rename_i j
    unfold gi at p1
    split at p1
    · rename_i h
      cases inv_int rv
      refine ⟨j, rfl, RgOk.of_le (by omega) (by omega) (by omega) h.1, fun q hq => ?_⟩
      obtain ⟨ok', l⟩ := ok1.new (o := .lst (rgV 0 j)) hq
      refine p1 _ _ _ (Step.new ok1 hq) ok' (Rep.lst (by show upd W1.B q _ q = _; rw [upd_same]) ?_)
      have := repA_range (C := C) (B := (W1.put q (.lst (rgV 0 j))).B) j
      simpa using this
    · exact p1.elim
  · exact p1.elim
/-! x.insert(i, v) -/
def f_ins (x : VD) (vs : List VD) (M : Mem) : Res VD := match x, vs with
  | .adr j, [.d (.int i), .d d] => match M[j]? with
    | some (.lst ds) => if ds.length < lim ∧ 0 ≤ i ∧ i ≤ 1000000 then .ok (.d .non) (M.set j (.lst (ds.take i.toNat ++ [d] ++ ds.drop i.toNat))) else .fail
    | _ => .fail
  | _, _ => .fail
def e_ins (a : Mx VD) (ms : Mx (List VD)) : Mx VD := fun ρ M => (a ρ M).bind fun x M1 => match lstOf M1 x with
  | some _ => (ms ρ M1).bind fun vs M2 => f_ins x vs M2
  | none => .fail
theorem x_ins {o e1 e2 : Expr} {a : Mx VD} {ms : Mx (List VD)} {apos cpos : Pos} (ha : PX X C E o a) (hb : PXA X C E [e1, e2] ms) (hbase : attributeBase o "insert" X.env (eval o X.env) = eval o X.env := by rfl)
    (hfew : ((backTo cpos (starEach [e1, e2] X.env)).all (fun x => !x.1) && (backToKw cpos (keywordEach [] X.env)).all (fun x => x.1.isSome) && decide ([e1, e2].length + ([] : List Keyword).length + (if ([] : List Keyword).isEmpty then 0 else 1) < 30)) = true := by rfl)
    (hline : (apos.endLine == cpos.line) = true := by rfl) (hs : starEach [e1, e2] X.env = (false, eval e1 X.env) :: starEach [e2] X.env := by rfl) (hpl : (backTo cpos (starEach [e2] X.env)).any (·.1) = false := by rfl) : PX X C E (.Call (.Attribute o "insert" apos) [e1, e2] [] cpos) (e_ins a ms) := by
  obtain ⟨ta, pa, sa⟩ := ha
  obtain ⟨tb, pb, sb⟩ := hb
  refine ⟨_, pe_bm PySem.F.plainAttrs_list PySem.F.slot_list_insert PySem.F.type_list_insert mt_insert pa pb hbase hfew hline hs hpl, fun W σ H ρ M Q ok sl p => ?_⟩
  refine sa W σ H ρ M _ ok sl (post_bind p fun x M1 W1 H1 vx l1 ok1 ra p1 => ?_)
  split at p1
  · rename_i ds0 e0
    obtain ⟨p0, vs0, rfl, hs0, hr0⟩ := lst_read ok1 ra e0
    refine ⟨.inl ⟨rfl, _, SqL.of hs0⟩, ?_⟩
    refine sb W1 σ H1 ρ M1 _ ok1 (sl.mono l1.le) (post_bind p1 fun vs M2 W2 H2 vv l2 ok2 rb p2 => ?_)
    have ra := ra.mono l2.le
    unfold f_ins at p2
    split at p2
    · rename_i j i d _
      obtain ⟨q, eq, hq⟩ := (show RepV C W2 (.ref p0) (.adr j) from ra)
      cases eq
      split at p2
      · rename_i ds e
        split at p2
        · rename_i hl
          obtain ⟨y1, y2, rfl, r1, r2⟩ := rb.two
          cases inv_int r1
          obtain ⟨hB, ws, h1, h2⟩ := ok2.mo j _ _ hq e
          refine ⟨_, ws, i, y2, rfl, rfl, h1, by rw [h2.length]; exact lim_lt hl.1, hl.2.1, by omega, ?_⟩
          have ok3 := ok2.write (o := .lst (ws.take i.toNat ++ [y2] ++ ws.drop i.toNat)) (m := .lst (ds.take i.toNat ++ [d] ++ ds.drop i.toNat)) hq e (fun z => by cases z) ⟨hB, _, upd_same, ((h2.take _).append (.cons r2 .nil)).append (h2.drop _)⟩
          exact p2 _ _ _ (Step.write hq) ok3 (show Rep C W2.B V.non D.non from .non)
        · exact p2.elim
      · exact p2.elim
    · exact p2.elim
  · exact p1.elim
/-! list * int, which changes later -/
noncomputable def f_mulO : VD → VD → Mem → Res VD
  | .d (.lst s), .d (.int j), M => gi (j < 2 ^ 60 ∧ -(2 ^ 60) < j ∧ s.length * j.toNat ≤ lim) (.ok (.adr M.length) (M ++ [.lst (List.replicate j.toNat s).flatten])) .fail
  | _, _, _ => .fail
theorem p_mulO : OpS C E r_mul f_mulO := fun W H M x y a b Q ok ra rb p => by
  unfold f_mulO at p
  split at p
  · rename_i s j
    unfold gi at p
    split at p
    · rename_i h
      cases inv_int rb
      cases (show Rep C W.B x (.lst s) from ra) with
      | lst h1 h2 =>
        obtain ⟨g1, g2, g3⟩ := h
        exact .inr ⟨_, _, _, rfl, rfl, ok.sub _ _ h1, by omega, by omega, by rw [h2.length]; exact lim_le g3, post_lstO p ok (h2.rep _)⟩
    · exact p.elim
  · exact p.elim
theorem x_mulO {a b : Expr} {ma mb : Mx VD} {pos : Pos} (ha : PX X C E a ma) (hb : PX X C E b mb) : PX X C E (.BinOp a .Mult b pos) (e_op f_mulO ma mb) := x_op o_mul p_mulO ha hb
end
end G

namespace G
open PySem PySem.Spec PyProof.Rows L2
/-- the set that set(..) begins with -/
abbrev set0 (w : World) : Obj := { cls := .type "set", dict := none, data := .set #[] 0 (.fresh 0 0 (!w.params.followText "set-order")) }
section
variable {P : Program} {w : World} {A : Around} {E : Value → Shared → Prop} {s : Shared}
theorem set_by {v : Value} {R : Shared → Prop} {Q : Value → Shared → Prop}
    (hI : wpAny (model P w) A.in1.in1 (Builtin.«set.__init__» ⟨[.ref s.heap.objs.size, v], []⟩) (fun r s2 => r = .done (.ret .none) ∧ R s2) E { s with heap := s.heap.push (set0 w) })
    (hQ : ∀ s2, R s2 → Q (.ref s.heap.objs.size) s2) : wpAny (model P w) A (call (.type "set") [v]) Q E s := by
  obtain ⟨mc, ml, q1⟩ := F.called_set.mro
  have q2 := F.called_set.made; have q3 := F.called_set.sub
  refine wpAny_call (codeAny_of_tree (wpAny_pure ⟨Code.quiet_builtin _ (by decide +kernel), codeAny_builtin F.entry_type_call ?_⟩))
  rw [Around.under_plain (weight_type_call_type "set" [v] []) rfl]
  have q4 := F.called_set.notType; have q5 := F.called_set.canCreate; have q6 := F.typeCall_set_1 v
  repeat (any_goals (first | assumption | wp_step))
  refine codeAny_mono (code_set_led1 v (E := E) (Q₁ := fun o t => o = .ref s.heap.objs.size ∧ t = { s with heap := s.heap.push (set0 w) }) ⟨rfl, rfl⟩) fun r t z => ?_
  match r, z with
  | .error _, z => exact z
  | .ok (.next), z => exact z.elim
  | .ok (.brk), z => exact z.elim
  | .ok (.cont), z => exact z.elim
  | .ok (.ret _), z =>
    obtain ⟨rfl, rfl⟩ := z
    have at0 : (s.heap.push (set0 w)).get? s.heap.objs.size = some (set0 w) := Heap.get?_push_size _ rfl
    have ty0 : Shared.TypeIs { s with heap := s.heap.push (set0 w) } (.ref s.heap.objs.size) "set" := ⟨_, at0, rfl⟩
    have l1 := F.called_set.init.lookup; have l2 := F.called_set.init.bind (.ref s.heap.objs.size)
    repeat (any_goals (first | assumption | wp_step))
    refine codeAny_mono (codeAny_call_builtin (R := wants (fun r t => r = .none ∧ R t) E) F.called_set.init.plain F.entry_set_init (check_set_init_1 ty0 (wpAny_mono hI (fun r t z => ?_) fun _ _ z => z))) fun r t z => ?_
    · obtain ⟨rfl, z⟩ := z; exact ⟨rfl, z⟩
    · match r, z with
      | .error _, z => exact z
      | .ok (.next), z => exact z.elim
      | .ok (.brk), z => exact z.elim
      | .ok (.cont), z => exact z.elim
      | .ok (.ret _), z =>
        obtain ⟨rfl, z⟩ := z
        repeat (any_goals (first | assumption | wp_step))
        exact hQ _ z
theorem none_at {h : Heap} {b : Addr} (hb : h.objs.size ≤ b) : h.get? b = none := by
  cases q : h.get? b with
  | none => rfl
  | some o => exact absurd (Heap.lt_size q) (Nat.not_lt.mpr hb)
theorem set_tupT {l : Addr} {us : List Value} (ks : List (Addr × List Int)) {Q : Value → Shared → Prop} (hh : A.handled = none) (hl : s.heap.IsTuple l us.toArray) (hit : us = ks.map fun p => Value.ref p.1)
    (hk : ∀ p ∈ ks, IsT P w s.heap p.2 p.1) (hf : ks.length < 64) (hu : A.units + 3 < cLine)
    (hQ : ∀ (h' : Heap) (tk : Nat) L es ep t, SetTR P w h' s.heap.objs.size L es ep t → Got ks ks.length L → (∀ b o, s.heap.get? b = some o → h'.get? b = some o) → Q (.ref s.heap.objs.size) { s with heap := h', toks := tk }) :
    wpAny (model P w) A (call (.type "set") [.ref l]) Q E s := by
  refine set_by (R := fun t => ∃ (h' : Heap) (tk : Nat) (L : List (Addr × List Int)) (es : Array (Int × Value)) (ep : Nat) (t' : SetTable), t = { s with heap := h', toks := tk } ∧ SetTR P w h' s.heap.objs.size L es ep t' ∧ Got ks ks.length L ∧ ∀ b o, s.heap.get? b = some o → h'.get? b = some o)
    ?_ fun t ⟨h', tk, L, es, ep, t', e, a, b, c⟩ => by subst e; exact hQ h' tk L es ep t' a b c
  have hsz : us.toArray.size = ks.length := by rw [hit]; simp
  have lS : l < s.heap.objs.size := by obtain ⟨o, ho, _⟩ := hl; exact Heap.lt_size ho
  have tl : (s.heap.push (set0 w)).IsTuple l us.toArray := hl.push _
  have sz1 : (s.heap.push (set0 w)).objs.size = s.heap.objs.size + 1 := Heap.size_push ..
  unfold Builtin.«set.__init__» noKeywords Builtin.Frozenset.updateFrom
  generalize hPI : pyIter = PI
  obtain ⟨ol, hol, hcl, nl, hdl⟩ := hl
  obtain ⟨ocls, odict, odata, oslots⟩ := ol
  simp only at hcl hdl
  subst hcl; subst hdl
  have hol1 : (s.heap.push (set0 w)).get? l = some { cls := .type "tuple", dict := odict, data := .seq us.toArray nl, slots := oslots } := Heap.get?_push_of_some _ hol
  have n1 := F.sub_tuple_set; have n2 := F.sub_tuple_frozenset
  have n3 : (Value.type "tuple" == Value.type "dict") = false := by decide
  have at0 : (s.heap.push (set0 w)).get? s.heap.objs.size = some (set0 w) := Heap.get?_push_size _ rfl
  have ty0 : Shared.TypeIs { s with heap := s.heap.push (set0 w) } (.ref s.heap.objs.size) "set" := ⟨_, at0, rfl⟩
  wp_walk
  subst hPI
  refine wpAny_pyIter_tuple tl (wpAny_bind (wpAny_runValue ?_))
  have nI : l ≠ (s.heap.push (set0 w)).objs.size := by
    rw [sz1]
    exact Nat.ne_of_lt (Nat.lt_succ_of_lt lS)
  have at1 : ((s.heap.push (set0 w)).push { cls := .type "tuple_iterator", data := .fields #[.ref l, .int 0 0] }).get? s.heap.objs.size = some (set0 w) := Heap.get?_push_of_some _ at0
  have nS : s.heap.objs.size ∉ [(s.heap.push (set0 w)).objs.size, l] := by
    intro z
    rcases List.mem_cons.mp z with z | z
    · rw [sz1] at z
      exact Nat.ne_of_lt (Nat.lt_succ_self _) z
    · exact Nat.ne_of_gt lS (List.mem_singleton.mp z)
  refine set_update_tups (A := A.in1.in1) ((Walks.tuple (by simp [hh]) _ l nI us.toArray).toS) s.heap.objs.size nS ks hsz hf (fun i v hv => ?_) s.heap hk (none_at (Nat.le_refl _)) (fun b hb => none_at (by rw [List.mem_singleton.mp hb, sz1]; exact Nat.le_succ _)) (by show A.units + 3 < cLine; exact hu)
    (us.toArray.size - 0) 0 _ (by omega) (Nat.zero_le _) ?_ ?_
    ?_ fun t L es ep t' hm a b c => ?_
  · rw [hit] at hv
    simp only [List.getElem?_toArray, List.getElem?_map] at hv
    cases q : ks[i]? with
    | none => rw [q] at hv; cases hv
    | some p => rw [q] at hv; exact ⟨p, rfl, (Option.some.inj hv).symm⟩
  · exact ⟨⟨_, Heap.get?_push_size _ rfl, rfl, rfl⟩, tl.push _⟩
  · exact fun b o e => Heap.get?_push_of_some _ (Heap.get?_push_of_some _ e)
  · exact ⟨[], #[], 0, _, setTR_fresh at1, Got.zero ks⟩
  · rw [hsz] at b
    refine wpAny_pure (wpAny_pure ⟨rfl, t.heap, t.toks, L, es, ep, t', ?_, a, b, c⟩)
    have e1 := hm.gens; have e2 := hm.drawn; have e3 := hm.os
    cases t
    dsimp only at e1 e2 e3
    rw [e1, e2, e3]
end
/-! sorted(set(xs)), xs a list or a tuple of pairs of ints -/
section
variable {X : Cx} {C : Cf} {E : XK} {CX : CXT} {k : Nat}
def rSetTT (K : PySem.W.Frag) (P : Program) (w : World) : List V → Hp → VK → Prop := fun xs H Q => ∃ (l : Addr) (ks : List (Addr × List Int)), xs = [V.ref l] ∧ (SqL K H l (ks.map fun p => V.ref p.1) ∨ SqT K H l (ks.map fun p => V.ref p.1)) ∧ (∀ p ∈ ks, SqT K H p.1 (p.2.map V.int)) ∧ ks.length < 64 ∧
  ∀ a L, H a = none → (∀ p ∈ L, p ∈ ks) → (∀ p ∈ ks, p.2 ∈ L.map (·.2)) → Q (.ref a) (upd H a (SetTO P w a L))
theorem cr_setTT (hc : X.calm = true) (hu : X.A.units + 64 < cLine) : CallR X (.type "set") (rSetTT X.K X.prog X.w) := by
  intro pins s σ H xs us Q I r h
  obtain ⟨l, ks, rfl, hl | hl, hk, hf, q⟩ := h
  · exact cr_setOfT hc hu pins s σ H [V.ref l] us Q I r ⟨l, ks, rfl, hl, hk, hf, q⟩
  · rw [Vals.ref1 r]
    obtain ⟨its, rv, pl, hz⟩ := I.tuple hl
    refine set_tupT (P := X.prog) (w := X.w) (us := its) ks (I.ok.hd hc) pl (refs_of_vals rv) (fun p hp => I.isT (hk p hp)) hf (by omega) fun h' tk L es ep t R g kp => ?_
    refine ⟨.ref s.heap.objs.size, upd H s.heap.objs.size (SetTO X.prog X.w s.heap.objs.size L), I.laid (t' := tk) kp (Nat.le_refl _) (setTO_new R.t0), rfl, q _ L (I.hok.fresh (Nat.le_refl _)) (fun p hp => List.mem_of_mem_take (g.sub p hp)) fun p hp => g.all p (by rw [List.take_length]; exact hp)⟩
def prC : D → Option Nat
  | .tup [.int a, .int b] => if 0 ≤ a ∧ a < 1000 ∧ 0 ≤ b ∧ b < 1000 then some (a.toNat * 1000 + b.toNat) else none
  | _ => none
def unC (c : Nat) : D := .tup [.int ((c / 1000 : Nat) : Int), .int ((c % 1000 : Nat) : Int)]
def unI (c : Nat) : List Int := [((c / 1000 : Nat) : Int), ((c % 1000 : Nat) : Int)]
def allC : List D → Option (List Nat)
  | [] => some []
  | d :: r => match prC d, allC r with
    | some c, some cs => some (c :: cs)
    | _, _ => none
@[irreducible] def sortC (cs : List Nat) : List Nat := (List.range 1000000).filter fun c => decide (c ∈ cs)
theorem prC_some {d : D} {c : Nat} (h : prC d = some c) : d = unC c ∧ c < 1000000 := by
  unfold prC at h
  split at h
  · rename_i a b
    split at h
    · rename_i z
      obtain ⟨z1, z2, z3, z4⟩ := z
      obtain ⟨m, rfl⟩ : ∃ m : Nat, a = m := ⟨a.toNat, by omega⟩
      obtain ⟨n, rfl⟩ : ∃ n : Nat, b = n := ⟨b.toNat, by omega⟩
      have e := Option.some.inj h
      simp only [Int.toNat_natCast] at e
      subst e
      refine ⟨?_, by omega⟩
      unfold unC
      rw [show (m * 1000 + n) / 1000 = m by omega, show (m * 1000 + n) % 1000 = n by omega]
    · cases h
  · cases h
theorem repA_prs {B : Hp} : ∀ {vs : List V} {ds : List D} {cs : List Nat}, RepA C B vs ds → allC ds = some cs → ∃ ks : List (Addr × List Int), vs = (ks.map fun p => V.ref p.1) ∧ ks.map (·.2) = cs.map unI ∧ (∀ p ∈ ks, SqT C.K B p.1 (p.2.map V.int)) ∧ ∀ c ∈ cs, c < 1000000
  | _, _, _, .nil, e => by
    cases e
    exact ⟨[], rfl, rfl, fun _ h => (nomatch h), fun _ h => (nomatch h)⟩
  | _, _, _, .cons (d := d) (ds := ds) h r, e => by
    unfold allC at e
    cases q1 : prC d with
    | none => rw [q1] at e; cases e
    | some c =>
      cases q2 : allC ds with
      | none => rw [q1, q2] at e; cases e
      | some cs =>
        rw [q1, q2] at e
        cases e
        obtain ⟨rfl, hc⟩ := prC_some q1
        obtain ⟨ks, e1, e2, e3, e4⟩ := repA_prs r q2
        unfold unC at h
        cases h with
        | tup h1 h2 =>
          rename_i a vs'
          refine ⟨(a, unI c) :: ks, by rw [e1]; rfl, by rw [List.map_cons, e2]; rfl, fun p hp => ?_, fun x hx => ?_⟩
          · rcases List.mem_cons.mp hp with z | z
            · rw [z]
              cases h2 with
              | cons i1 t1 => cases i1; cases t1 with
                | cons i2 t2 => cases i2; cases t2; exact h1
            · exact e3 p z
          · rcases List.mem_cons.mp hx with z | z
            · rw [z]; exact hc
            · exact e4 x z
theorem code_unI (c : Nat) : TS.code 1000 (unI c) = c := by
  have e1 : (1000 : Int) ^ 1 = 1000 := by decide
  have e0 : (1000 : Int) ^ 0 = 1 := by decide
  show ((c / 1000 : Nat) : Int) * 1000 ^ 1 + (((c % 1000 : Nat) : Int) * 1000 ^ 0 + 0) = c
  rw [e1, e0]
  omega
theorem unI_inj {a b : Nat} (h : unI a = unI b) : a = b := by
  have e := congrArg (TS.code 1000) h
  rw [code_unI, code_unI] at e
  omega
theorem unI_bd {c : Nat} (h : c < 1000000) : TS.Bd 1000 (unI c) := fun m hm => by
  unfold unI at hm
  rcases List.mem_cons.mp hm with e | e
  · omega
  · have e := List.mem_singleton.mp e
    omega
theorem repA_back {B : Hp} : ∀ {L : List (Addr × List Int)} {cs : List Nat}, L.map (·.2) = cs.map unI → (∀ p ∈ L, SqT C.K B p.1 (p.2.map V.int)) → RepA C B (L.map fun p => V.ref p.1) (cs.map unC)
  | [], [], _, _ => .nil
  | [], _ :: _, e, _ => by cases e
  | _ :: _, [], e, _ => by cases e
  | (a, ns) :: L, c :: cs, e, h => by
    obtain ⟨e1, e2⟩ := List.cons.inj e
    have e1 : ns = unI c := e1
    subst e1
    exact .cons (Rep.tup (h _ List.mem_cons_self) (.cons (.int _) (.cons (.int _) .nil))) (repA_back e2 fun p hp => h p (List.mem_cons_of_mem _ hp))
theorem lift_unI : ∀ {l : List (List Int)} {cs : List Nat}, (∀ x ∈ l, x ∈ cs.map unI) → ∃ t : List Nat, l = t.map unI
  | [], _, _ => ⟨[], rfl⟩
  | x :: l, cs, h => by
    obtain ⟨c, _, e⟩ := List.mem_map.mp (h x List.mem_cons_self)
    obtain ⟨t, e2⟩ := lift_unI (l := l) fun y hy => h y (List.mem_cons_of_mem _ hy)
    exact ⟨c :: t, by rw [List.map_cons, e, e2]⟩
theorem sortC_pw (cs : List Nat) : (sortC cs).Pairwise (· < ·) := by
  unfold sortC
  exact List.Pairwise.filter _ List.pairwise_lt_range
theorem sortC_mem {cs : List Nat} (h : ∀ c ∈ cs, c < 1000000) (x : Nat) : x ∈ sortC cs ↔ x ∈ cs := by
  unfold sortC
  rw [List.mem_filter, List.mem_range, decide_eq_true_eq]
  exact ⟨fun z => z.2, fun z => ⟨h x z, z⟩⟩
def f_srtT : List VD → Mem → Res VD
  | [v], M => match (seqOf M v).bind allC with
    | some cs => if cs.length < 64 then .ok (.d (.lst ((sortC cs).map unC))) M else .fail
    | none => .fail
  | _, _ => .fail
theorem xb_srtT {e : Expr} {m : Mx VD} {p p2 q pos : Pos} (c : Cxx X C E CX k) (hm : X.mg "sorted" = none) (hm2 : X.mg "set" = none) (ha : PX X C E e m) (hg : Gl X "sorted" := by rfl) (hg2 : Gl X "set" := by rfl)
    (he : starEach [e] X.env = [(false, eval e X.env)] := by rfl) (he2 : starEach [.Call (.Name "set" p2) [e] [] q] X.env = [(false, eval (.Call (.Name "set" p2) [e] [] q) X.env)] := by rfl) : PX X C E (.Call (.Name "sorted" p) [.Call (.Name "set" p2) [e] [] q] [] pos) (e_bi f_srtT (a_cons m a_nil)) := by
  obtain ⟨ta, pa, sa⟩ := xa_cons ha xa_nil he
  refine ⟨_, pe_callB (cr_sortedT c.calm) hg hm boot_sorted (pa_cons (pe_callTy (cr_setTT c.calm c.hr.units) hg2 hm2 boot_set pa (by decide) (by decide) he) pa_nil he2) (by decide) (by decide) he2 , fun W σ H ρ M Q ok sl p => ?_⟩
  refine sa W σ H ρ M _ ok sl (post_bind p fun vs M1 W1 H1 x l1 ok1 ra p1 => ?_)
  unfold f_srtT at p1
  split at p1
  · rename_i v
    obtain ⟨y, rfl, r⟩ := ra.one
    split at p1
    · rename_i cs ecs
      split at p1
      · rename_i hlen
        cases qs : seqOf M1 v with
        | none => rw [qs] at ecs; cases ecs
        | some ds =>
          rw [qs] at ecs
          obtain ⟨l, vs, rfl, h1, h2⟩ := seq_read ok1 r qs
          obtain ⟨ks, rfl, e2, e3, e4⟩ := repA_prs h2 ecs
          have hks : ks.length = cs.length := by
            have z := congrArg List.length e2
            simpa using z
          rw [c.K] at h1 e3
          have e3' : ∀ p ∈ ks, SqT X.K H1 p.1 (p.2.map V.int) := fun p hp => sqT_sub ok1.sub (e3 p hp)
          refine ⟨l, ks, rfl, h1, e3', by omega, fun a L ha hL hA => ⟨a, L, 2, 1000, rfl, upd_same, fun p hp => sqT_sub (same_upd ha) (e3' p (hL p hp)), by decide, fun p hp => ?_, fun L' b pm nd hl64 pw hb => ?_⟩⟩
          · obtain ⟨c', hc', e⟩ := List.mem_map.mp (show p.2 ∈ cs.map unI by rw [← e2]; exact List.mem_map_of_mem (hL p hp))
            rw [← e]
            exact ⟨rfl, unI_bd (e4 c' hc')⟩
          · obtain ⟨t, et⟩ := lift_unI (l := L'.map (·.2)) (cs := cs) fun x hx => by
              obtain ⟨p, hp, rfl⟩ := List.mem_map.mp hx
              rw [← e2]
              exact List.mem_map_of_mem (hL p (pm.mem_iff.mp hp))
            have tnd : t.Nodup := by
              have z : (t.map unI).Nodup := by rw [← et]; exact nd
              exact (List.pairwise_map.mp z).imp fun {a b} h e => h (by rw [e])
            have tle : t.Pairwise (· ≤ ·) := by
              have z : (L'.map (·.2)).Pairwise (fun a b => TS.code 1000 a ≤ TS.code 1000 b) := List.pairwise_map.mpr pw
              rw [et] at z
              refine (List.pairwise_map.mp z).imp fun {a b} h => ?_
              rw [code_unI, code_unI] at h
              omega
            have tlt : t.Pairwise (· < ·) := (tle.and tnd).imp fun {a b} h => Nat.lt_of_le_of_ne h.1 h.2
            have tm : ∀ x, x ∈ t ↔ x ∈ sortC cs := fun x => by
              rw [sortC_mem e4]
              constructor
              · intro hx
                have z : unI x ∈ L'.map (·.2) := by rw [et]; exact List.mem_map_of_mem hx
                obtain ⟨p, hp, e⟩ := List.mem_map.mp z
                have z2 : p.2 ∈ cs.map unI := by rw [← e2]; exact List.mem_map_of_mem (hL p (pm.mem_iff.mp hp))
                obtain ⟨c', hc', e'⟩ := List.mem_map.mp z2
                rw [← unI_inj (e'.trans e)]
                exact hc'
              · intro hx
                have z : unI x ∈ ks.map (·.2) := by rw [e2]; exact List.mem_map_of_mem hx
                obtain ⟨p, hp, e⟩ := List.mem_map.mp z
                obtain ⟨p', hp', e'⟩ := List.mem_map.mp (hA p hp)
                have z2 : p'.2 ∈ t.map unI := by rw [← et]; exact List.mem_map_of_mem (pm.mem_iff.mpr hp')
                obtain ⟨c', hc', e''⟩ := List.mem_map.mp z2
                rw [← unI_inj (e''.trans (e'.trans e))]
                exact hc'
            obtain rfl : t = sortC cs := rise_eq tlt (sortC_pw cs) tm
            have ok2 : Ok C W1 (upd H1 a (SetTO X.prog X.w a L)) M1 := ok1.grow (same_upd ha)
            obtain ⟨ok3, l3⟩ := ok2.new (o := .lst (L'.map fun q => V.ref q.1)) hb
            refine p1 _ _ _ ((Step.grow ha).trans (Step.new ok2 hb)) ok3 (Rep.lst (by show upd W1.B b _ b = _; rw [upd_same]) (repA_back et fun p hp => ?_))
            rw [c.K]
            exact sqT_sub l3.1 (e3 p (hL p (pm.mem_iff.mp hp)))
      · exact p1.elim
    · exact p1.elim
  · exact p1.elim
end
end G

namespace G
open PySem PySem.Spec PyProof.Rows L2
section
variable {X : Cx} {C : Cf} {E : XK} {CX : CXT} {k : Nat}
/-! s.index(letter) that is found -/
theorem pre_one {c : Nat} : ∀ {l : List Nat}, TL.pre [c] l = true ↔ l.head? = some c
  | [] => by simp [TL.pre]
  | x :: l => by simp [TL.pre]
theorem idx_least {c : Nat} {a : List Nat} {i : Nat} (h1 : a[i]? = some c) (h2 : ∀ j, j < i → a[j]? ≠ some c) : a.idxOf c = i := by
  induction a generalizing i with
  | nil => simp at h1
  | cons x r ih =>
    cases i with
    | zero => simp at h1; simp [h1]
    | succ i =>
      have hx : x ≠ c := fun e => h2 0 (Nat.succ_pos _) (by simp [e])
      rw [List.idxOf_cons]
      have e : (x == c) = false := by simpa using hx
      rw [e]
      simp only [cond_false]
      rw [ih (i := i) (by simpa using h1) fun j hj => by simpa using h2 (j + 1) (Nat.succ_lt_succ hj)]
theorem occ_one {a : List Nat} {c : Nat} (h : c ∈ a) : ∃ rest, Builtin.Str.occurrences (enc a) (enc [c]) 0 (enc a).length 1 = a.idxOf c :: rest := by
  have hne : TL.tl (enc [c]) ≠ [] := by simp [TL.tl, enc]
  have at1 : ∀ i, StrLaws.At (enc a) (enc [c]) (enc a).length i ↔ a[i]? = some c := fun i => by
    rw [TL.at_iff hne]
    show TL.pre [c] (a.drop i) = true ↔ _
    rw [pre_one, List.head?_drop]
  rcases StrLaws.occ_head (enc a) (enc [c]) 1 (Nat.le_refl _) with ⟨_, z⟩ | ⟨i, r, e, h1, h2⟩
  · obtain ⟨i, hi⟩ := List.mem_iff_getElem?.mp h
    exact absurd ((at1 i).mpr hi) (z i)
  · exact ⟨r, by rw [e, idx_least ((at1 i).mp h1) fun j hj q => h2 j hj ((at1 j).mpr q)]⟩
def f_sidx (x y : VD) (M : Mem) : Res VD := match x, y with
  | .d (.str a), .d (.str [c]) => if c ∈ a then .ok (.d (.int (a.idxOf c : Nat))) M else .fail
  | _, _ => .fail
theorem p_sidx : OpS C E (fun x y H Q => ∃ a b i rest, x = .str a ∧ [y] = [.str b] ∧ Builtin.Str.occurrences a b 0 a.length 1 = i :: rest ∧ Q (.int (i : Nat)) H) f_sidx := fun W H M x y a b Q ok ra rb p => by
  unfold f_sidx at p
  split at p
  · rename_i s c
    split at p
    · rename_i hc
      cases inv_str ra
      cases inv_str rb
      obtain ⟨rest, e⟩ := occ_one hc
      exact ⟨_, _, _, rest, rfl, rfl, e, post_ok p ok (.int _)⟩
    · exact p.elim
  · exact p.elim
theorem x_sidx {o e : Expr} {ma mb : Mx VD} {apos pos : Pos} (ha : PX X C E o ma) (hb : PX X C E e mb) (hs : starEach [e] X.env = [(false, eval e X.env)] := by rfl) (hbase : attributeBase o "index" X.env (eval o X.env) = eval o X.env := by rfl) (hline : (apos.endLine == pos.line) = true := by rfl) :
    PX X C E (.Call (.Attribute o "index" apos) [e] [] pos) (e_m1 f_sidx ma mb) := by
  obtain ⟨ta, pa, sa⟩ := ha
  obtain ⟨tb, pb, sb⟩ := hb
  exact ⟨_, pe_m1 F.slot_str_index F.type_str_index mt_sindex pa pb hs hbase hline, sem_m1 (C := C) (E := E) (r := fun x xs H Q => ∃ a b i rest, x = .str a ∧ xs = [.str b] ∧ Builtin.Str.occurrences a b 0 a.length 1 = i :: rest ∧ Q (.int (i : Nat)) H) p_sidx sa sb⟩
/-! s.endswith(t) -/
def f_ends (x y : VD) (M : Mem) : Res VD := match x, y with
  | .d (.str a), .d (.str b) => .ok (.d (.bl (Txt.endswith (enc a) (enc b)))) M
  | _, _ => .fail
theorem p_ends : OpS C E (fun x y H Q => ∃ a b, x = .str a ∧ [y] = [.str b] ∧ Q (.bl (Txt.endswith a b)) H) f_ends := fun W H M x y a b Q ok ra rb p => by
  unfold f_ends at p
  split at p
  · cases inv_str ra
    cases inv_str rb
    exact ⟨_, _, rfl, rfl, post_ok p ok (.bl _)⟩
  · exact p.elim
theorem x_ends {o e : Expr} {ma mb : Mx VD} {apos pos : Pos} (ha : PX X C E o ma) (hb : PX X C E e mb) (hs : starEach [e] X.env = [(false, eval e X.env)] := by rfl) (hbase : attributeBase o "endswith" X.env (eval o X.env) = eval o X.env := by rfl) (hline : (apos.endLine == pos.line) = true := by rfl) :
    PX X C E (.Call (.Attribute o "endswith" apos) [e] [] pos) (e_m1 f_ends ma mb) := by
  obtain ⟨ta, pa, sa⟩ := ha
  obtain ⟨tb, pb, sb⟩ := hb
  exact ⟨_, pe_m1 F.slot_str_endswith F.type_str_endswith mt_endswith pa pb hs hbase hline, sem_m1 (C := C) (E := E) (r := fun x xs H Q => ∃ a b, x = .str a ∧ xs = [.str b] ∧ Q (.bl (Txt.endswith a b)) H) p_ends sa sb⟩
/-! max of a list of ints -/
def maxL : List Int → Int
  | [] => 0
  | [x] => x
  | x :: r => max x (maxL r)
theorem maxL_is : ∀ {l : List Int} {m : Int}, m ∈ l → (∀ y ∈ l, y ≤ m) → maxL l = m
  | [x], m, h, _ => (List.mem_singleton.mp h).symm
  | x :: y :: r, m, h, hm => by
    show max x (maxL (y :: r)) = m
    rcases List.mem_cons.mp h with e | e
    · subst e
      have hle : ∀ (l : List Int), l ≠ [] → (∀ z ∈ l, z ≤ m) → maxL l ≤ m := by
        intro l
        induction l with
        | nil => intro h; exact absurd rfl h
        | cons z t ih =>
          intro _ hz
          cases t with
          | nil => exact hz z List.mem_cons_self
          | cons z2 t =>
            show max z (maxL (z2 :: t)) ≤ m
            have := hz z List.mem_cons_self
            have := ih (by simp) fun q hq => hz q (List.mem_cons_of_mem _ hq)
            omega
      have := hle (y :: r) (by simp) fun z hz => hm z (List.mem_cons_of_mem _ hz)
      omega
    · rw [maxL_is e fun z hz => hm z (List.mem_cons_of_mem _ hz)]
      have := hm x List.mem_cons_self
      omega
def f_max : List VD → Mem → Res VD
  | [v], M => match (lstOf M v).bind inL with
    | some ns => if ns ≠ [] then .ok (.d (.int (maxL ns))) M else .fail
    | none => .fail
  | _, _ => .fail
theorem p_max : CallS C E (rMax C.K) f_max := fun W H M xs as Q ok ra p => by
  unfold f_max at p
  split at p
  · obtain ⟨x, rfl, r⟩ := ra.one
    split at p
    · rename_i ns e
      split at p
      · rename_i hn
        obtain ⟨q, rfl, hs⟩ := ints_read ok r e
        refine ⟨q, ns, rfl, hs, List.length_pos_iff.mpr hn, fun m hm hle => ?_⟩
        rw [← maxL_is hm hle]
        exact post_ok p ok (.int _)
      · exact p.elim
    · exact p.elim
  · exact p.elim
theorem boot_max : bootBuiltins "max" = some (.builtin "max") := by decide +kernel
theorem xb_max {e : Expr} {es : List Expr} {ms : Mx (List VD)} {p pos : Pos} (cx : Cxx X C E CX k) (hm : X.mg "max" = none) (ha : PXA X C E (e :: es) ms) (hg : Gl X "max" := by rfl)
    (he : starEach (e :: es) X.env = (false, eval e X.env) :: starEach es X.env := by rfl) (hpl : (backTo pos (starEach es X.env)).any (·.1) = false := by rfl) : PX X C E (.Call (.Name "max" p) (e :: es) [] pos) (e_bi f_max ms) :=
  x_bi (cr_max cx.calm) (by rw [← cx.K]; exact p_max) hm boot_max ha hg (by decide) (by decide) he hpl
end
/-! a def with defaults all of which are written -/
theorem bind_all {K : PySem.W.Frag} {fd : FuncData} {ps : List Str} {dvs : List V} {j : Nat} (h : ∃ ds, Vals (dvs.drop j) ds ∧ Binds K fd ps ds) (e : dvs.drop j = [] := by rfl) : Binds K fd ps [] := by
  obtain ⟨ds, r, b⟩ := h
  rw [e] at r
  cases r
  exact b
end G

namespace G
open PySem PySem.Spec PyProof.Rows L2
/-- a tuple once -/
theorem tup_once (l : Addr) (us : Array Value) (k : Nat) (od : Option Addr) (so : Array (Option Value)) (u : Tok) :
    Meets (Builtin.«tuple.__mul__» ⟨[.ref l, .int 1 u], []⟩) (fun _ R s => s.heap.get? l = some { cls := .type "tuple", dict := od, data := .seq us k, slots := so } ∧ R (.ok (.ret (.ref l))) s) :=
  .of_wp fun prog w A R s h => by
    obtain ⟨hp, g, d, tk, os⟩ := s
    obtain ⟨hl, h⟩ := h
    have f1 := AutoSeq1.idx_int
    wp_walk using wpAny_loadPart' hl
    exact ⟨_, rfl, h⟩
section
variable {X : Cx} {C : Cf} {E : XK} {CX : CXT} {k : Nat}
/-! a text in a text -/
def subS (a z : List Nat) : Bool := (List.range (z.length + 1)).any fun i => TL.pre a (z.drop i)
theorem occ_sub {a z : List Nat} (h : a ≠ []) : (!(Builtin.Str.occurrences (enc z) (enc a) 0 (enc z).length 1).isEmpty) = subS a z := by
  have hne : TL.tl (enc a) ≠ [] := by simpa [TL.tl, enc] using h
  have at1 : ∀ i, StrLaws.At (enc z) (enc a) (enc z).length i ↔ TL.pre a (z.drop i) = true := fun i => TL.at_iff hne i
  have lt : ∀ i, TL.pre a (z.drop i) = true → i < z.length + 1 := fun i hi => by
    rcases Nat.lt_or_ge i (z.length + 1) with q | q
    · exact q
    · have e : z.drop i = [] := List.drop_eq_nil_of_le (by omega)
      rw [e] at hi
      unfold TL.pre at hi
      simp at hi
      exact absurd hi h
  rw [Bool.eq_iff_iff]
  unfold subS
  rw [List.any_eq_true]
  rcases StrLaws.occ_head (enc z) (enc a) 1 (Nat.le_refl _) with ⟨e, q⟩ | ⟨i, r, e, h1, h2⟩
  · rw [e]
    constructor
    · intro z; simp at z
    · rintro ⟨i, _, hi⟩
      exact absurd ((at1 i).mpr hi) (q i)
  · rw [e]
    refine ⟨fun _ => ⟨i, List.mem_range.mpr (lt i ((at1 i).mp h1)), (at1 i).mp h1⟩, fun _ => rfl⟩
def rInT (neg : Bool) : R2 := fun x y H Q => ∃ a z, x = .str a ∧ y = .str z ∧ Q (.bl ((!(Builtin.Str.occurrences z a 0 z.length 1).isEmpty) != neg)) H
theorem op_inT : OpR X (compareOp .In) (rInT false) := by
  intro pins s σ H x y v u Q I rx ry h
  obtain ⟨a, z, rfl, rfl, q⟩ := h
  obtain ⟨t, rfl⟩ := rx
  obtain ⟨t', rfl⟩ := ry
  exact PyProof.Rows.in_str ⟨.bl _, H, I, by rw [Bool.bne_false]; exact rfl, q⟩
theorem op_niT : OpR X (compareOp .NotIn) (rInT true) := by
  intro pins s σ H x y v u Q I rx ry h
  obtain ⟨a, z, rfl, rfl, q⟩ := h
  obtain ⟨t, rfl⟩ := rx
  obtain ⟨t', rfl⟩ := ry
  exact PyProof.Rows.notIn_str ⟨.bl _, H, I, by rw [Bool.bne_true]; exact rfl, q⟩
def f_inT (neg : Bool) (x y : VD) (M : Mem) : Res VD := match x, y with
  | .d (.str a), .d (.str z) => if a ≠ [] then .ok (.d (.bl (subS a z != neg))) M else .fail
  | _, _ => .fail
theorem p_inT {neg : Bool} : OpS C E (rInT neg) (f_inT neg) := fun W H M x y a b Q ok ra rb p => by
  unfold f_inT at p
  split at p
  · rename_i s t
    split at p
    · rename_i hn
      cases inv_str ra
      cases inv_str rb
      refine ⟨_, _, rfl, rfl, ?_⟩
      rw [occ_sub hn]
      exact post_ok p ok (.bl _)
    · exact p.elim
  · exact p.elim
theorem x_inT {a b : Expr} {ma mb : Mx VD} {pos : Pos} (ha : PX X C E a ma) (hb : PX X C E b mb) (hm : behindInMarks .In b = false := by with_unfolding_all rfl) : PX X C E (.Compare a [.In] [b] pos) (e_op (f_inT false) ma mb) := x_cmp op_inT p_inT ha hb hm
theorem x_niT {a b : Expr} {ma mb : Mx VD} {pos : Pos} (ha : PX X C E a ma) (hb : PX X C E b mb) (hm : behindInMarks .NotIn b = false := by with_unfolding_all rfl) : PX X C E (.Compare a [.NotIn] [b] pos) (e_op (f_inT true) ma mb) := x_cmp op_niT p_inT ha hb hm
/-! a tuple a few times -/
def rRep1 (K : PySem.W.Frag) : R2 := fun x y H Q => ∃ l xs, x = .ref l ∧ y = .int 1 ∧ SqT K H l xs ∧ Q (.ref l) H
theorem op_rep1 : OpR X (binaryOp .Mult) (rRep1 X.K) := by
  intro pins s σ H x y v u Q I rx ry h
  obtain ⟨l, xs, rfl, rfl, hT, q⟩ := h
  cases rx
  obtain ⟨t, rfl⟩ := ry
  obtain ⟨its, r, ⟨⟨cls, dd, data, sl⟩, ho, hc, n, hd⟩, hs⟩ := I.tuple hT
  simp only at hc hd
  subst hc hd
  exact wpAny_binaryOp_repeat_ref (T := "tuple") (U := "int") (by decide) ⟨_, ho, rfl⟩ (fun s' => typeIs_int s' 1 t) noFill_tuple_mul F.fills_int_mul F.slot_int_rmul repeat_tuple F.slot_int_index.lookup
    (call_meets F.slot_int_rmul (typeIs_int s 1 t) F.entry_int_rmul (F.args_int_rmul_2 _ _) (int_rmul_tuple 1 t l its.toArray n dd sl)
      ⟨ho, rfl, ⟨_, ho, rfl⟩, call_meets F.slot_tuple_mul ⟨_, ho, rfl⟩ F.entry_tuple_mul (F.args_tuple_mul_2 _ _) (tup_once l its.toArray n dd sl t) ⟨ho, ⟨.ref l, H, I, rfl, q⟩⟩⟩)
noncomputable def f_mulT : VD → VD → Mem → Res VD
  | .d (.tup s), .d (.int j), M => gi (s ≠ [] ∧ 1 ≤ j ∧ j ≤ 1000 ∧ s.length ≤ 1000) (.ok (.d (.tup (List.replicate j.toNat s).flatten)) M) .fail
  | _, _, _ => .fail
theorem p_mulT : OpS C E (fun x y H Q => rRep1 C.K x y H Q ∨ rRepT C.K x y H Q) f_mulT := fun W H M x y a b Q ok ra rb p => by
  unfold f_mulT at p
  split at p
  · rename_i s j
    unfold gi at p
    split at p
    · rename_i h
      obtain ⟨g1, g2, g3, g4⟩ := h
      cases inv_int rb
      cases (show Rep C W.B x (.tup s) from ra) with
      | tup h1 h2 =>
        by_cases e : j = 1
        · subst e
          refine .inl ⟨_, _, rfl, rfl, sqT_sub ok.sub h1, post_ok p ok ?_⟩
          simp only [Int.toNat_one, List.replicate_one, List.flatten_singleton]
          exact Rep.tup h1 h2
        · refine .inr ⟨_, _, _, rfl, rfl, sqT_sub ok.sub h1, fun z => g1 ?_, by omega, g3, by rw [h2.length]; exact g4, post_tup p ok (h2.rep _)⟩
          have := h2.length
          rw [z] at this
          exact List.eq_nil_of_length_eq_zero this.symm
    · exact p.elim
  · exact p.elim
theorem x_mulT {a b : Expr} {ma mb : Mx VD} {pos : Pos} (cx : Cxx X C E CX k) (ha : PX X C E a ma) (hb : PX X C E b mb) : PX X C E (.BinOp a .Mult b pos) (e_op f_mulT ma mb) := x_op (by rw [cx.K]; exact OpR.or op_rep1 op_repT) p_mulT ha hb
/-! C.f(a, .., kw = b), f a static method -/
structure StatKOk (P : Program) (w : World) (K : PySem.W.Frag) (mg : Str → Option Value) (base : Heap) (CX : CXT) (C : Cf) (c : Nat) (x kw : Str) (j n : Nat) (m : List VD → Mem → Res VD) : Prop where
  ex : ∃ f fd ps p mc, FnOk P w K mg base CX j f fd ps (spD C (n + 1) m) ∧ (∀ (s : Shared) (us : List Value) (u : Value), us.length = n → BindsTo s fd ⟨us, [(kw, u)]⟩ (ps.zip (us ++ [u]))) ∧ ClX.CRead K (C.ca c) mc ∧
    PySem.W.findCls K (.ref (C.ca c)) mc x = some (.get (.builtin "staticmethod.__get__") (.ref p) .none (.ref (C.ca c))) ∧ (∃ rest, PySem.W.recIn K p "staticmethod" = some (.ref f :: rest)) ∧ PySem.W.keepIn K (.ref f) = true
def e_statK (n : Nat) (m : List VD → Mem → Res VD) (ms : Mx (List VD)) (mk : Mx VD) : Mx VD := fun ρ M => (ms ρ M).bind fun vs M1 => (mk ρ M1).bind fun v M2 => if vs.length = n then m (vs ++ [v]) M2 else .fail
def tStatK (n : Nat) (sp : Sp) (E : XK) (t : TA) (tk : TE) : TE := fun σ H Q => t σ H fun vs H1 => tk σ H1 fun z H2 => vs.length = n ∧ sp (vs ++ [z]) H2 Q E
theorem x_statK {c j n : Nat} {m} {nm x kw : Str} {e ek : Expr} {es : List Expr} {ms : Mx (List VD)} {mk : Mx VD} {p0 p pos kp : Pos} {pl : PySem.Sem Bool} (cx : Cxx X C E CX k) (hm : X.mg nm = some (.ref (C.ca c))) (F : StatKOk X.prog X.w X.K X.mg X.base CX C c x kw j n m) (ha : PXA X C E (e :: es) ms) (hk : PX X C E ek mk) (hj : j ≤ k := by decide) (hg : Gl X nm := by rfl) (hdb : (nm == ("__debug__" : Str)) = false := by decide)
    (hst : starEach (e :: es) X.env = (false, eval e X.env) :: starEach es X.env := by rfl) (hpl : ((backTo pos (starEach (e :: es) X.env)).any (·.1) || (backToKw pos (keywordEach [⟨some kw, ek, kp⟩] X.env)).any (·.1.isNone)) = false := by rfl)
    (hall : (backToKw pos (keywordEach [⟨some kw, ek, kp⟩] X.env)).all (·.1.isSome) = true := by rfl) (hks : (backToKw pos (keywordEach [⟨some kw, ek, kp⟩] X.env)).filterMap (·.1) = [kw] := by rfl)
    (ht : eval (.Call (.Attribute (.Name nm p0) x p) (e :: es) [⟨some kw, ek, kp⟩] pos) X.env = (do
      let ov ← eval (.Name nm p0) X.env
      standAt p.atName
      let (f, first) ← holding [ov] (getMethod ov x pl)
      callWith pos f first (backTo pos (starEach (e :: es) X.env)) (backToKw pos (keywordEach [⟨some kw, ek, kp⟩] X.env))) := by rfl) :
    PX X C E (.Call (.Attribute (.Name nm p0) x p) (e :: es) [⟨some kw, ek, kp⟩] pos) (e_statK n m ms mk) := by
  obtain ⟨f, fd, ps, p1, mc, F, hb, hr, hat, ⟨rest, hrc⟩, hkp⟩ := F.ex
  obtain ⟨ta, pa, sa⟩ := ha
  obtain ⟨tk, pk, sk⟩ := hk
  refine ⟨tStatK n (spD C (n + 1) m) E ta tk, ⟨fun pins s σ H Q I h => ?_⟩, fun W σ H ρ M Q ok sl p => ?_⟩
  · refine PySem.W.methodCall_KW (pl := pl) (thn ((pe_glob (pos := p0) (v := V.ref (C.ca c)) hg hm rfl hdb).run pins s σ H (fun v H1 => v = V.ref (C.ca c) ∧ H1 = H) I ⟨rfl, rfl⟩) fun u s1 ⟨y, H1, I1, ry, e1, e2⟩ => ?_) ht
    subst e1 e2
    obtain rfl : u = Value.ref (C.ca c) := ry
    refine PySem.W.method_cls I1.kIn hr.ga (PySem.W.cls_bind I1.kIn hr.rd hat (wpAny_call (PySem.W.sm_get (s := { s1 with toks := s1.toks + 1 }) I1.kIn hrc (PySem.W.handed_on rfl ?_))))
    have I2 : Inv X pins σ H1 { s1 with toks := s1.toks + 1 } := I1.tok _
    refine PySem.W.callWith_KW (first := []) (h₀ := X.base) I2.ok.mod.kin hkp hall (thn (pa.run pos pins _ σ H1 _ I2 h) fun us s3 ⟨vs, H2, I3, rv, q2⟩ => ?_) hpl hst
    refine thn ((pk_cons pk pk_nil).run pos pins s3 σ H2 (fun zs H3 => match zs with | [z] => vs.length = n ∧ spD C (n + 1) m (vs ++ [z]) H3 Q E | _ => False) I3 q2) fun ws s4 ⟨zs, H3, I4, rz, q3⟩ => ⟨I4.kIn, ?_⟩
    match zs, rz, q3 with
    | [z], rz, q3 =>
      obtain ⟨hl, q3⟩ := q3
      obtain ⟨w1, rfl, rw1⟩ := vals1 rz
      rw [hks]
      refine wpAny_call (codeAny_mono (F.run X.A X.stack s4 H3 ⟨us, [(kw, w1)]⟩ (us ++ [w1]) (vs ++ [z]) Q E (cx.hr.mono hj) I4.env0 (hb s4 us w1 (by rw [← rv.length]; exact hl)) (rv.append rz) q3) fun r s' hq => ?_)
      cases r with
      | error e => exact cx.pas pins σ H3 s4 e s' I4 hq
      | ok fl =>
        cases fl with
        | ret u => exact I4.after hq
        | next => exact False.elim hq
        | brk => exact False.elim hq
        | cont => exact False.elim hq
  · refine sa W σ H ρ M _ ok sl (post_bind p fun vs M1 W1 H1 x l1 ok1 ra p1 => ?_)
    refine sk W1 σ H1 ρ M1 _ ok1 (sl.mono l1.le) (post_bind p1 fun v M2 W2 H2 y l2 ok2 rv p2 => ?_)
    split at p2
    · rename_i hl
      refine ⟨by rw [ra.length]; exact hl, W2, M2, _, ok2, (RepVA.mono l2.le ra).append (.cons rv .nil), by rw [List.length_append]; simp [hl], p2⟩
    · exact p2.elim
end
end G

namespace G
open PySem PySem.Spec PyProof.Rows L2
section
variable {X : Cx} {C : Cf} {E : XK} {CX : CXT} {k : Nat}
/-! a comprehension over a list that may change, but does not while it is walked -/
structure WalksP (C : Cf) (J : It) (items : List D) (P : Mem → Prop) (W0 : Wd) : Prop where
  go : ∀ (i : Nat) (W : Wd) (H : Hp) (M : Mem), Le W0 W → Ok C W H M → P M → i < items.length → J.go i H
  yld : ∀ (i : Nat) (W : Wd) (H : Hp) (M : Mem) (x : V) (H' : Hp), Le W0 W → Ok C W H M → P M → i < items.length → J.yld i H x H' → ∃ W' d, items[i]? = some d ∧ Step W H W' H' ∧ Ok C W' H' M ∧ Rep C W'.B x d
  stop : ∀ (i : Nat) (W : Wd) (H : Hp) (M : Mem), Le W0 W → Ok C W H M → P M → items.length ≤ i → J.stop i H
theorem WalksP.mono {J : It} {items : List D} {P : Mem → Prop} {W W' : Wd} (l : Le W W') (h : WalksP C J items P W) : WalksP C J items P W' :=
  ⟨fun i W2 H M l2 => h.go i W2 H M (l.trans l2), fun i W2 H M x H' l2 => h.yld i W2 H M x H' (l.trans l2), fun i W2 H M l2 => h.stop i W2 H M (l.trans l2)⟩
theorem Walks.toP {J : It} {items : List D} {W : Wd} (h : Walks C J items W) : WalksP C J items (fun _ => True) W :=
  ⟨fun i W2 H M l ok _ => h.go i W2 H M l ok, fun i W2 H M x H' l ok _ => h.yld i W2 H M x H' l ok, fun i W2 H M l ok _ => h.stop i W2 H M l ok⟩
abbrev relIP (C : Cf) : Wd → It → List D × (Mem → Prop) → Prop := fun W J ip => WalksP C J ip.1 ip.2 W
def SemIP (C : Cf) (E : XK) (wi : TI) (mi : Mx (List D × (Mem → Prop))) : Prop := ∀ W σ H ρ M R, Ok C W H M → Slots C W σ ρ → post C (relIP C) E R W H (mi ρ M) → wi σ H R
structure PXIP (X : Cx) (C : Cf) (E : XK) (tg iter : Expr) (mi : Mx (List D × (Mem → Prop))) : Prop where
  ex : ∃ wi, PI X tg iter wi ∧ SemIP C E wi mi
noncomputable def compLP (P : Mem → Prop) (turn : D → Mem → Res (Option D)) : List D → Mem → List D → Res (List D)
  | [], M, acc => gi (P M) (.ok acc M) .fail
  | x :: xs, M, acc => gi (P M) (match turn x M with
    | .ok (some d) M1 => if acc.length < lim then compLP P turn xs M1 (acc ++ [d]) else .fail
    | .ok none M1 => compLP P turn xs M1 acc
    | _ => .fail) .fail
theorem compLP_no {P : Mem → Prop} {turn} {x : D} {xs acc : List D} {M : Mem} (h : ¬ P M) : compLP P turn (x :: xs) M acc = .fail := by
  rw [compLP]
  exact if_neg h
theorem compLP_go {P : Mem → Prop} {turn} {x : D} {xs acc : List D} {M : Mem} (h : P M) : compLP P turn (x :: xs) M acc = match turn x M with
    | .ok (some d) M1 => if acc.length < lim then compLP P turn xs M1 (acc ++ [d]) else .fail
    | .ok none M1 => compLP P turn xs M1 acc
    | _ => .fail := by
  rw [compLP]
  exact if_pos h
theorem compLP_nil_no {P : Mem → Prop} {turn} {acc : List D} {M : Mem} (h : ¬ P M) : compLP P turn [] M acc = .fail := if_neg h
theorem compLP_nil {P : Mem → Prop} {turn} {acc : List D} {M : Mem} (h : P M) : compLP P turn [] M acc = .ok acc M := if_pos h
noncomputable def e_compP (vs : List Nat) (mi : Mx (List D × (Mem → Prop))) (mg : VD → Env → Option Env) (mt : Mx Bool) (me : Mx VD) : Mx VD := fun ρ M => (mi ρ M).bind fun ip M1 => (compLP ip.2 (cTurn vs mg mt me ρ) ip.1 M1 []).bind fun ds M2 => .ok (.d (.lst ds)) M2
theorem sem_compP {wi : TI} {g : TG} {tt : TT} {te : TE} {vs ts : List Nat} {mi mg mt me} (hts : ∀ j ∈ ts, j ∈ vs) (si : SemIP C E wi mi) (sg : SemG C ts g mg) (st : SemT C E0 tt mt) (se : Sem C E0 te me) : Sem C E (tLc wi g tt te vs) (e_compP vs mi mg mt me) := fun W σ H ρ M Q ok sl p => by
  refine si W σ H ρ M _ ok sl (post_bind p fun itP M1 W1 H1 J l1 ok1 wk p1 => ?_)
  obtain ⟨items, P⟩ := itP
  dsimp only at wk p1
  intro A hA
  -- the state between the turns
  refine ⟨fun i m H2 => m = items.length - i ∧ i ≤ items.length ∧ ∃ (W2 : Wd) (M2 : Mem) (vacc : List V) (acc : List D), Step W1 H1 W2 H2 ∧ Ok C W2 H2 M2 ∧ H2 A = some (.lst vacc) ∧ W2.B A = none ∧ (∀ j : Nat, W2.al[j]? ≠ some A) ∧ RepA C W2.B vacc acc ∧
    post C (relV C) E Q W1 H1 ((compLP P (cTurn vs mg mt me ρ) (items.drop i) M2 acc).bind fun ds M2 => .ok (.d (.lst ds)) M2), ?_, ?_⟩
  · refine ⟨_, rfl, Nat.zero_le _, W1, M1, [], [], Step.grow hA, ok1.grow (same_upd hA), upd_same, ok1.notB hA, fun j e => ok1.ne hA e rfl, .nil, ?_⟩
    rw [List.drop_zero]
    exact p1
  · rintro i m H2 ⟨rfl, hi, W2, M2, vacc, acc, s2, ok2, hD, hB, hal, racc, p2⟩
    by_cases hlt : i < items.length
    · obtain ⟨d, hd0⟩ : ∃ d, items[i]? = some d := ⟨items[i], List.getElem?_eq_getElem hlt⟩
      have e : items.drop i = d :: items.drop (i + 1) := by
        rw [List.drop_eq_getElem_cons hlt]
        have := (List.getElem?_eq_some_iff.mp hd0).2
        rw [this]
      rw [e] at p2
      have hP : P M2 := by
        by_cases z : P M2
        · exact z
        · rw [compLP_no z] at p2
          exact p2.elim
      rw [compLP_go hP] at p2
      refine .inr ⟨wk.go i W2 H2 M2 s2.le ok2 hP hlt, fun H' => ∃ m', m' < items.length - i ∧ (m' = items.length - (i + 1) ∧ i + 1 ≤ items.length ∧ ∃ (W2 : Wd) (M2 : Mem) (vacc : List V) (acc : List D), Step W1 H1 W2 H' ∧ Ok C W2 H' M2 ∧ H' A = some (.lst vacc) ∧ W2.B A = none ∧ (∀ j : Nat, W2.al[j]? ≠ some A) ∧ RepA C W2.B vacc acc ∧
        post C (relV C) E Q W1 H1 ((compLP P (cTurn vs mg mt me ρ) (items.drop (i + 1)) M2 acc).bind fun ds M2 => .ok (.d (.lst ds)) M2)), fun H' h => h, fun x H3 y => ?_⟩
      obtain ⟨W3, d', hd, s3, ok3, rx⟩ := wk.yld i W2 H2 M2 x H3 s2.le ok2 hP hlt y
      obtain rfl : d = d' := Option.some.inj (hd0.symm.trans hd)
      obtain ⟨hD3, hB3, hal3⟩ := s3.fr A _ hD hB hal nt_lst
      have sl3 := ((sl.mono l1.le).mono s2.le).mono s3.le
      refine sg W3 (L2.wipe σ vs) H3 (wipeE ρ vs) M2 x (.d d) _ ok3 (sl3.wipe vs) rx ?_
      cases q0 : cTurn vs mg mt me ρ d M2 with
      | fail =>
        rw [q0] at p2
        exact p2.elim
      | exc _ _ _ =>
        rw [q0] at p2
        exact p2.elim
      | ok o M5 =>
        rw [q0] at p2
        cases o with
        | none =>
          obtain ⟨ρ2, q, q2⟩ := cTurn_none q0
          rw [q]
          intro σ2 sl4 w4
          refine ⟨by rw [w4 vs hts, wipe_idem fun j h => h], ?_⟩
          refine st W3 σ2 H3 ρ2 M2 _ ok3 sl4 ?_
          rw [q2]
          intro W4 H4 b' s4 ok4 eb
          obtain ⟨hD4, hB4, hal4⟩ := s4.fr A _ hD3 hB3 hal3 nt_lst
          cases eb
          show ∃ m', _
          exact ⟨_, by omega, rfl, hlt, W4, M5, vacc, acc, (s2.trans s3).trans s4, ok4, hD4, hB4, hal4, (racc.mono s3.le.1).mono s4.le.1, p2⟩
        | some z =>
          obtain ⟨ρ2, M4, q, q2, q3⟩ := cTurn_some q0
          rw [q]
          intro σ2 sl4 w4
          refine ⟨by rw [w4 vs hts, wipe_idem fun j h => h], ?_⟩
          refine st W3 σ2 H3 ρ2 M2 _ ok3 sl4 ?_
          rw [q2]
          intro W4 H4 b' s4 ok4 eb
          obtain ⟨hD4, hB4, hal4⟩ := s4.fr A _ hD3 hB3 hal3 nt_lst
          cases eb
          show te σ2 H4 _
          refine se W4 σ2 H4 ρ2 M4 _ ok4 (sl4.mono s4.le) ?_
          rw [q3]
          intro W5 H5 y5 s5 ok5 r5
          obtain ⟨hD5, hB5, hal5⟩ := s5.fr A _ hD4 hB4 hal4 nt_lst
          have p2 : post C (relV C) E Q W1 H1 ((if acc.length < lim then compLP P (cTurn vs mg mt me ρ) (items.drop (i + 1)) M5 (acc ++ [z]) else Res.fail).bind fun ds M2 => .ok (.d (.lst ds)) M2) := p2
          split at p2
          · rename_i hl
            have racc5 : RepA C W5.B vacc acc := ((racc.mono s3.le.1).mono s4.le.1).mono s5.le.1
            refine ⟨vacc, hD5, by rw [racc.length]; exact lim_lt hl, _, by omega, rfl, hlt, W5, M5, vacc ++ [y5], acc ++ [z], ?_, ?_, upd_same, hB5, hal5, racc5.append (.cons r5 .nil), p2⟩
            · have sx := (((s2.trans s3).trans s4).trans s5)
              refine ⟨sx.le, fun a o h1 h2 h3 h4 => ?_⟩
              obtain ⟨q1, q2, q3⟩ := sx.fr a o h1 h2 h3 h4
              exact ⟨by rw [upd_ne (ne_of_none h1 hA)]; exact q1, q2, q3⟩
            · refine ⟨fun b u e => ?_, ok5.nd, ok5.len, fun j b n e1 e2 => ?_, tabs_write ok5.tab hD5 plain_lst, ok5.tbB, ok5.low⟩
              · rw [upd_ne (ne_of_none e hB5)]
                exact ok5.sub b u e
              · have ne : b ≠ A := fun q => hal5 j (by rw [← q]; exact e1)
                have q := ok5.mo j b n e1 e2
                cases n with
                | dead => exact q
                | lst ds =>
                  obtain ⟨q1, vs, q2, q3⟩ := q
                  exact ⟨q1, vs, by rw [upd_ne ne]; exact q2, q3⟩
                | ins c fs =>
                  obtain ⟨q1, dx, vs, q2, q3⟩ := q
                  exact ⟨q1, dx, vs, by rw [upd_ne ne]; exact q2, q3⟩
                | lsv ds =>
                  obtain ⟨q1, vs, q2, q3⟩ := q
                  exact ⟨q1, vs, by rw [upd_ne ne]; exact q2, q3⟩
          · exact p2.elim
    · have hi2 : i = items.length := by omega
      subst hi2
      rw [List.drop_length] at p2
      have hP : P M2 := by
        by_cases z : P M2
        · exact z
        · rw [compLP_nil_no z] at p2
          exact p2.elim
      rw [compLP_nil hP] at p2
      refine .inl ⟨wk.stop _ W2 H2 M2 s2.le ok2 hP (Nat.le_refl _), ?_⟩
      have p2 : post C (relV C) E Q W1 H1 (.ok (.d (.lst acc)) M2) := p2
      obtain ⟨ok6, l6⟩ := ok2.know hD hB hal (tab_nlst ok2.tab hD)
      exact p2 _ H2 _ (s2.put hA hB) ok6 (Rep.lst (by show upd W2.B A _ A = _; rw [upd_same]) (racc.mono l6.1))
theorem x_compP {elt tg iter : Expr} {ifs : List Expr} {scope : Scope} {own : List (Str × Nat)} {pos : Pos} {ts : List Nat} {mi : Mx (List D × (Mem → Prop))} {mg mt me} (c : Cxx X C E CX k) (hi : PXIP X C E tg iter mi) (ok : BlkOk X.N X.env.scope scope own)
    (hg : ∀ (s : Shared) (H : Hp) (A : Addr) (cl : List (Str × Addr)) (fp : List Addr), Cxx (X.blk s H scope (compEnvC scope cl A X.env) fp) C E0 CX k → PXG (X.blk s H scope (compEnvC scope cl A X.env) fp) C ts tg mg)
    (ht : ∀ (s : Shared) (H : Hp) (A : Addr) (cl : List (Str × Addr)) (fp : List Addr), Cxx (X.blk s H scope (compEnvC scope cl A X.env) fp) C E0 CX k → PXTs (X.blk s H scope (compEnvC scope cl A X.env) fp) C E0 ifs mt)
    (he : ∀ (s : Shared) (H : Hp) (A : Addr) (cl : List (Str × Addr)) (fp : List Addr), Cxx (X.blk s H scope (compEnvC scope cl A X.env) fp) C E0 CX k → PX (X.blk s H scope (compEnvC scope cl A X.env) fp) C E0 elt me)
    (hts : ∀ j ∈ ts, j ∈ own.map (·.2) := by decide) (hs : ∀ x, foldedSetIterable iter X.env x = pure x := by intro _; rfl) : PX X C E (.ListComp elt [⟨tg, iter, ifs, 0⟩] scope pos) (e_compP (own.map (·.2)) mi mg mt me) := by
  obtain ⟨wi, pi, si⟩ := hi
  exact ⟨_, pe_lc c.calm c.nd pi ok (fun s H A cl fp => (hg s H A cl fp (c.blk s H scope _ fp)).pg) (fun s H A cl fp => (ht s H A cl fp (c.blk s H scope _ fp)).pts) (fun s H A cl fp => (he s H A cl fp (c.blk s H scope _ fp)).pe) hs,
    sem_compP hts si (sem_tg ts mg) (sem_tt mt) (sem_te me)⟩
theorem walks_own {W : Wd} {a : Addr} {j : Nat} {ds : List D} (h : W.al[j]? = some a) : WalksP C (Itl C.K a) ds (fun M => M[j]? = some (.lst ds)) W where
  go := fun i W2 H M l ok hP hi => by
    obtain ⟨_, vs, e, r⟩ := ok.mo j a _ (l.at h) hP
    obtain ⟨d, hd⟩ : ∃ d, ds[i]? = some d := ⟨ds[i], List.getElem?_eq_getElem hi⟩
    obtain ⟨v, hv, _⟩ := r.get hd
    exact ⟨vs, v, SqL.of e, hv⟩
  yld := fun i W2 H M x H' l ok hP hi y => by
    obtain ⟨_, vs, e, r⟩ := ok.mo j a _ (l.at h) hP
    obtain ⟨d, hd⟩ : ∃ d, ds[i]? = some d := ⟨ds[i], List.getElem?_eq_getElem hi⟩
    obtain ⟨v, hv, rv⟩ := r.get hd
    obtain ⟨e', y⟩ := y
    subst e'
    have e2 := y vs (SqL.of e)
    rw [hv] at e2
    cases e2
    exact ⟨W2, d, hd, Step.refl _ _, ok, rv⟩
  stop := fun i W2 H M l ok hP hi => by
    obtain ⟨_, vs, e, r⟩ := ok.mo j a _ (l.at h) hP
    exact ⟨vs, SqL.of e, by rw [r.length]; exact hi⟩
def anyP (v : VD) (M : Mem) : Res (List D × (Mem → Prop)) := match v with
  | .adr j => match M[j]? with
    | some (.lst ds) => .ok (ds, fun M => M[j]? = some (.lst ds)) M
    | _ => .fail
  | .d (.lst ds) => .ok (ds, fun _ => True) M
  | .d (.tup ds) => .ok (ds, fun _ => True) M
  | _ => .fail
def i_anyP (a : Mx VD) : Mx (List D × (Mem → Prop)) := fun ρ M => (a ρ M).bind anyP
theorem xi_anyP {tg e : Expr} {m : Mx VD} (hK : C.K = X.K) (h : PX X C E e m) : PXIP X C E tg e (i_anyP m) := by
  obtain ⟨ta, pa, sa⟩ := h
  refine ⟨_, PI.or (pi_list pa) (pi_tup pa), fun W σ H ρ M R ok sl p => ?_⟩
  unfold i_anyP at p
  cases q : m ρ M with
  | fail =>
    rw [q] at p
    exact p.elim
  | exc c fs M1 =>
    rw [q] at p
    refine .inl (sa W σ H ρ M _ ok sl ?_)
    rw [q]
    exact p
  | ok v M1 =>
    rw [q] at p
    replace p : post C (relIP C) E R W H (anyP v M1) := p
    unfold anyP at p
    split at p
    · rename_i j
      split at p
      · rename_i ds hj
        refine .inl (sa W σ H ρ M _ ok sl ?_)
        rw [q]
        intro W1 H1 x l1 ok1 ra
        obtain ⟨a, rfl, ha⟩ := (show RepV C W1 x (.adr j) from ra)
        obtain ⟨_, vs, e, r⟩ := ok1.mo j a _ ha hj
        refine ⟨a, rfl, ⟨vs, SqL.of e⟩, ?_⟩
        rw [← hK]
        exact p W1 H1 _ l1 ok1 (walks_own ha)
      · exact p.elim
    · rename_i ds
      refine .inl (sa W σ H ρ M _ ok sl ?_)
      rw [q]
      intro W1 H1 x l1 ok1 ra
      cases (show Rep C W1.B x (.lst ds) from ra) with
      | lst h1 h2 =>
        refine ⟨_, rfl, ⟨_, SqL.of (ok1.sub _ _ h1)⟩, ?_⟩
        rw [← hK]
        exact p W1 H1 _ l1 ok1 (walks_list h1 h2).toP
    · rename_i ds
      refine .inr (sa W σ H ρ M _ ok sl ?_)
      rw [q]
      intro W1 H1 x l1 ok1 ra
      cases (show Rep C W1.B x (.tup ds) from ra) with
      | tup h1 h2 =>
        refine ⟨_, rfl, ⟨_, by rw [← hK]; exact sqT_sub ok1.sub h1⟩, ?_⟩
        rw [← hK]
        exact p W1 H1 _ l1 ok1 (walks_tup h1 h2).toP
    · exact p.elim
end
end G

namespace G
open PySem PySem.Spec PyProof.Rows L2
section
variable {X : Cx} {C : Cf} {E : XK} {CX : CXT} {k : Nat}
/-! a, b = a list -/
def g_unl (n : Nat) (gs : List VD → Env → Option Env) : VD → Env → Option Env
  | .d (.lst ds), ρ => if ds.length = n then gs (ds.map .d) ρ else none
  | _, _ => none
theorem xg_unl {ts : List Nat} {es : List Expr} {kk n : Nat} {gs} {pos : Pos} (c : Cxx X C E CX k) (h : PXGs X C ts es gs) (hn : (assignEach es X.env).length = n := by rfl) (hst : (assignEach es X.env).findIdx? (·.1) = none := by rfl) : PXG X C ts (.Tuple es kk pos) (g_unl n gs) := by
  obtain ⟨t, p, s⟩ := h
  refine ⟨_, pg_unl (n := n) c.calm p hn hst, fun W σ H ρ M x v Q ok sl r h => ?_⟩
  cases q : g_unl n gs v ρ with
  | none =>
    rw [q] at h
    exact h.elim
  | some ρ' =>
    rw [q] at h
    unfold g_unl at q
    split at q
    · rename_i _ ds
      split at q
      · rename_i hl
        cases (show Rep C W.B x (.lst ds) from r) with
        | lst h1 h2 =>
          refine ⟨_, _, rfl, SqL.of (ok.sub _ _ h1), by rw [h2.length]; exact hl, s W σ H _ M _ _ Q ok sl (RepA.vd h2) (by rw [q]; exact h)⟩
      · cases q
    · cases q
/-! sorted(list of letters) -/
def chL : List D → Option (List Nat)
  | [] => some []
  | .str [c] :: r => (chL r).map (c :: ·)
  | _ => none
theorem RepA.chL {B : Hp} : ∀ {vs : List V} {ds : List D} {cs : List Nat}, RepA C B vs ds → chL ds = some cs → vs = (cs.map sgn).map V.str
  | _, _, _, .nil, e => by cases e; rfl
  | _, _, _, .cons (d := d) (ds := ds) h r, e => by
    unfold G.chL at e
    split at e
    · rename_i h0; cases h0
    · rename_i c r' h0
      cases h0
      cases q : G.chL ds with
      | none => rw [q] at e; cases e
      | some cs =>
        rw [q] at e
        cases e
        cases h
        rw [RepA.chL r q]
        rfl
    · cases e
def f_srtC : List VD → Mem → Res VD
  | [v], M => match (lstOf M v).bind chL with
    | some cs => if cs.Nodup ∧ cs.length < 64 then .ok (.d (.lst ((sortU cs).map fun c => .str [c]))) M else .fail
    | none => .fail
  | _, _ => .fail
theorem p_srtC : CallS C E (rSortedS C.K) f_srtC := fun W H M xs as Q ok ra p => by
  unfold f_srtC at p
  split at p
  · rename_i v
    obtain ⟨y, rfl, r⟩ := ra.one
    split at p
    · rename_i cs e
      split at p
      · rename_i hl
        cases q : lstOf M v with
        | none => rw [q] at e; cases e
        | some ds =>
          rw [q] at e
          obtain ⟨a, vs, rfl, h1, h2⟩ := lst_read ok r q
          have e2 := RepA.chL h2 e
          subst e2
          refine ⟨a, cs.map sgn, rfl, SqL.of h1, by rw [List.length_map]; exact hl.2, fun ys b hp hs hb => ?_⟩
          have ey : ys = (sortU cs).map sgn := srt_is (fun k => by
            rw [hp.mem_iff, List.mem_map]
            constructor
            · rintro ⟨c, h1, h2⟩; exact ⟨c, h1, h2.symm⟩
            · rintro ⟨c, h1, h2⟩; exact ⟨c, h1, h2.symm⟩) (hp.nodup_iff.mpr (List.pairwise_map.mpr (hl.1.imp fun {a b} h e => h (by
              have : [a] = [b] := congrArg (fun z : Str => z.cps.toList) e
              cases this
              rfl)))) hs
          subst ey
          rw [List.map_map]
          obtain ⟨ok3, l3⟩ := ok.new (o := .lst ((sortU cs).map fun c => V.str ⟨#[c]⟩)) hb
          exact p _ _ _ (Step.new ok hb) ok3 (Rep.lst (by show upd W.B b _ b = _; rw [upd_same]; rfl) (repA_chars _))
      · exact p.elim
    · exact p.elim
  · exact p.elim
theorem xb_srtC {e : Expr} {es : List Expr} {ms : Mx (List VD)} {p pos : Pos} (cx : Cxx X C E CX k) (hm : X.mg "sorted" = none) (ha : PXA X C E (e :: es) ms) (hg : Gl X "sorted" := by rfl)
    (he : starEach (e :: es) X.env = (false, eval e X.env) :: starEach es X.env := by rfl) (hpl : (backTo pos (starEach es X.env)).any (·.1) = false := by rfl) : PX X C E (.Call (.Name "sorted" p) (e :: es) [] pos) (e_bi f_srtC ms) :=
  x_bi (by rw [cx.K]; exact cr_sortedS) p_srtC hm boot_sorted ha hg (by decide) (by decide) he hpl
end
/-! a call with its defaults or without -/
def arO (n : Nat) (dv : List D) (m : List VD → Mem → Res VD) : List VD → Mem → Res VD := fun ds M => if ds.length == n then ar n m ds M else arD n dv m ds M
section
variable {P : Program} {w : World} {K : PySem.W.Frag} {mg : Str → Option Value} {base : Heap} {CX : CXT} {C : Cf}
theorem cal_opt {j n : Nat} {m} {f : Addr} {fd : FuncData} {ps : List Str} {ds0 : List Value} {dvs : List V} {dv : List D} (F : FnOk P w K mg base CX j f fd ps (spD C n m)) (hb0 : Binds K fd ps []) (hb : Binds K fd ps ds0) (hd : Vals dvs ds0) (hr : ∀ B, RepA C B dvs dv) : FnR P w K mg base CX j f (spP C (arO n dv m)) :=
  cal_or (fun ds => ds.length == n) (cal_mk F hb0) (cal_dfl F hb hd hr)
theorem rep_tup0 {B : Hp} {a : Addr} {o : Obj} (h : C.K.lookup a = some o) (hc : o.cls = .type "tuple") (n : Nat) (hd : o.data = .seq #[] n) : Rep C B (.ref a) (.tup []) :=
  Rep.tup (vs := []) (.inr ⟨o, #[], n, h, hc, hd, by decide, .nil⟩) .nil
end
end G

/-! an own exception whose __init__ says super().__init__(text) first -/
namespace G
open PySem PySem.Spec PyProof.Rows L2
abbrev iniFn (qual : Str) (params : Arguments) (body : List Stmt) (scope : Scope) (cc : Addr) (dV kV doc pm : Value) (an : Option Addr) (cdv ct : Value) : FuncData :=
  { name := "__init__", qualname := qual, params, body := .stmts body, scope, globals := mainGlobals, closure := [("__class__", cc)], defaults := dV, kwdefaults := kV, doc, pyModule := pm, annotations := an, code := cdv, closureTuple := ct, builtins := builtinsNs }
abbrev iniEnv (qual : Str) (scope : Scope) (L f : Addr) (cdv : Value) (cc : Addr) : PySem.Env := PySem.W.envX qual scope L f cdv [("__class__", cc)]
def iniCx (CX : CXT) (P : Program) (w : World) (K : PySem.W.Frag) (mg : Str → Option Value) (base : Heap) (N : List Str) (qual : Str) (scope : Scope) (f : Addr) (cdv : Value) (cc : Addr) (A : Around) (outer : List PySem.Env) (s : Shared) (H : Hp) (E : XK) : Cx where
  prog := P
  w := w
  K := K
  mg := mg
  base := base
  A := A.deeper (iniEnv qual scope s.heap.objs.size f cdv cc)
  N := N
  s_0 := s
  H_0 := H
  env := iniEnv qual scope s.heap.objs.size f cdv cc
  outer := outer
  stack := iniEnv qual scope s.heap.objs.size f cdv cc :: outer
  ex := []
  calm := true
  fn := fun _ => false
  pn := []
  xe := fun e s' => wpAny (model P w) (A.deeper (iniEnv qual scope s.heap.objs.size f cdv cc)) (leaving (iniEnv qual scope s.heap.objs.size f cdv cc) e) (fun _ s'' => CX outer H s E e s'') (fun e' s'' => CX outer H s E e' s'') s'
structure IniS (ps : List Str) (sc : Scope) : Prop where
  kind : sc.kind = .function
  co : sc.isCoroutine = false
  gen : sc.isGenerator = false
  nd : ps.Nodup
  par : ∀ x ∈ ps, sc.names.lookup x = some .local
  nocell : ∀ y ∈ sc.names, y.2 ≠ .cell
  free : ∀ y ∈ sc.names, y.2 = .free → y.1 = "__class__"
  cls : sc.names.lookup ("__class__" : Str) = some .free
  sup : sc.names.lookup ("super" : Str) = some .globalImplicit
theorem nd_lookup {α : Type} : ∀ {l : List (Str × α)} {x : Str} {v : α}, (l.map (·.1)).Nodup → (x, v) ∈ l → l.lookup x = some v
  | [], _, _, _, h => by simp at h
  | (y, u) :: l, x, v, n, h => by
    rw [List.map_cons, List.nodup_cons] at n
    rcases List.mem_cons.mp h with e | h
    · cases e
      simp [List.lookup]
    · have ne : x ≠ y := fun z => n.1 (by rw [← z]; exact List.mem_map.mpr ⟨_, h, rfl⟩)
      have e : (x == y) = false := by simpa using ne
      rw [List.lookup, e]
      exact nd_lookup n.2 h
theorem zip_keys : ∀ {ps : List Str} {us : List Value}, us.length = ps.length → (ps.zip us).map (·.1) = ps
  | [], [], _ => rfl
  | p :: ps, u :: us, h => by
    simp at h
    simp [zip_keys h]
  | [], _ :: _, h => by simp at h
  | _ :: _, [], h => by simp at h
theorem rev_lookup {ps : List Str} {us : List Value} (n : ps.Nodup) (h : us.length = ps.length) {i : Nat} {x : Str} {u : Value} (hx : ps[i]? = some x) (hu : us[i]? = some u) : (ps.zip us).reverse.lookup x = some u := by
  refine nd_lookup ?_ (List.mem_reverse.mpr ?_)
  · rw [List.map_reverse, zip_keys h]
    exact (List.reverse_perm ps).nodup_iff.mpr n
  · exact List.mem_of_getElem? (i := i) (by rw [List.getElem?_zip_eq_some]; exact ⟨hx, hu⟩)
section
variable {CX : CXT} {P : Program} {w : World} {K : PySem.W.Frag} {mg : Str → Option Value} {base : Heap} {ps : List Str} {qual : Str} {scope : Scope} {f cc C : Addr} {cd : Value} {A : Around} {outer : List PySem.Env} {s : Shared} {H : Hp} {E : XK} {us : List Value} {vs : List V}
theorem inv_ini {h₀ : Heap} {tk : Tok} {ccv : Obj} (S : IniS ps scope) (hd : A.handled = none) (e0 : Env0 P w K mg base A outer s H) (hl : vs.length = ps.length) (r : Vals vs us) (hns : h₀.Ns s.heap.objs.size fun x => (ps.zip us).reverse.lookup x) (kp : ∀ b o, s.heap.get? b = some o → h₀.get? b = some o)
    (hcc : K.lookup cc = some ccv) (hcv : ccv.data = .cell (some (.ref C))) : Inv (iniCx CX P w K mg base ps qual scope f cd cc A outer s H E) [] (L2.start ps vs) H { s with heap := h₀, toks := tk } := by
  have noA : ∀ b : Addr, b ∉ (iniCx CX P w K mg base ps qual scope f cd cc A outer s H E).ex := fun b z => absurd (show b ∈ ([] : List Addr) from z) (by simp)
  have KX : K.In s.heap := e0.mod.kin.keeps fun b o e => (e0.bs b o e).1
  have hcH : H cc = none := (e0.bs cc _ (e0.mod.kin _ _ hcc)).2
  have hc1 : ∀ {y : Str} {c : Addr}, ([("__class__", cc)] : List (Str × Addr)).lookup y = some c → y = "__class__" ∧ c = cc := fun {y c} e => by
    have e' := PySem.mem_of_lookup e
    simp at e'
    exact e'
  have hlu : us.length = ps.length := by rw [← r.length, hl]
  refine ⟨⟨e0.mod, S.kind, rfl, rfl, Nat.le_refl _, fun y z c h1 h2 => ?_, fun y hy => ?_, fun y c z _ => ?_, fun _ => hd, Around.frames_deeper e0.frames, .inr ⟨rfl, rfl⟩, fun b z => absurd z (noA b), e0.bs, e0.bsz, fun b _ _ => noA b, fun b z => absurd z (noA b), e0.funs, e0.frf⟩,
    rfl, e0.bare, Un.kept kp, ⟨_, hns, fun i y v h1 h2 h3 => ?_⟩, fun y c h => ?_, e0.hok.fresh (Nat.le_refl _), fun y c h => ?_, fun p hp => absurd (show p ∈ ([] : List (Addr × Obj)) from hp) (by simp), e0.hok.kept kp, ?_⟩
  · obtain ⟨a1, _⟩ := hc1 h1
    obtain ⟨a2, _⟩ := hc1 h2
    rw [a1, a2]
  · have hy : scope.names.lookup y = some .cell ∨ scope.names.lookup y = some .free := hy
    rcases hy with hy | hy
    · exact absurd rfl (S.nocell _ (PySem.mem_of_lookup hy))
    · have := S.free _ (PySem.mem_of_lookup hy) rfl
      dsimp only at this
      subst this
      exact ⟨cc, rfl⟩
  · have z : false = true := z
    cases z
  · have hi : i < vs.length := by
      have := (List.getElem?_eq_some_iff.mp h1).1
      have h1' : i < ps.length := this
      omega
    have ha : vs[i]? = some v := by
      unfold L2.start at h2
      rw [List.getElem?_append_left (by simpa using hi), List.getElem?_map] at h2
      cases e : vs[i]? with
      | none => rw [e] at h2; cases h2
      | some a => rw [e] at h2; cases h2; rfl
    obtain ⟨u, hu, rv⟩ := r.get ha
    have h1' : ps[i]? = some y := h1
    exact ⟨u, rv, .inl ⟨S.par y (List.mem_of_getElem? h1'), rev_lookup S.nd hlu h1' hu⟩⟩
  · obtain ⟨_, a2⟩ := hc1 h
    subst a2
    exact ⟨_, ccv, kp _ _ (KX _ _ hcc), hcv⟩
  · obtain ⟨_, a2⟩ := hc1 h
    subst a2
    exact hcH
  · unfold L2.start
    show _ = ps.length
    rw [List.length_append, List.length_map, List.length_replicate]
    omega
end
section
variable {P : Program} {w : World} {A : Around} {E : Value → Shared → Prop} {h : Heap} {g : Array GenState} {d : Drawn} {t : Nat} {os : OsState}
variable {nm q : Str} {C N : Addr} {bs bm : List Value} {hdct : Bool} {sn : List Str} {sub : List Value} {ab : Bool} {col : Option Bool} {dd : Option Addr} {k0 k1 k2 k3 k5 : Option Value}
theorem call_vw {u e t0 : Addr} {rest : List Value} {Q : Value → Shared → Prop}
    (hC : h.get? C = some (excClassObj nm q C N bs bm hdct sn sub ab col dd k0 k1 k2 k3 k5 "ValueError.__new__")) (he : h.get? e = some (PySem.HandSPX.excO C t0)) (hu : h.get? u = some (PySem.W.kxs_mw "ValueError.__init__" e)) (hrest : rest.length ≤ sizeLine)
    (hq : ∀ h' t1, (∀ b o, b ≠ e → h.get? b = some o → h'.get? b = some o) → h'.get? e = some (PySem.HandSPX.excO C t1) → Q .none ⟨h', g, d, t, os⟩) :
    wpAny (model P w) A (call (.ref u) rest) Q E ⟨h, g, d, t, os⟩ := by
  have FB := F.excBase_ValueError
  refine wpAny_call (codeAny_of_tree ?_)
  show wpAny _ A.in1 (callAny (.ref u) ⟨rest, []⟩) _ _ _
  simp only [callAny]
  refine wpAny_bind (wpAny_load hu ?_)
  simp only [PySem.W.kxs_mw, show (Value.type "method-wrapper" == Value.type "method" || Value.type "method-wrapper" == Value.type "builtin_function_or_method" || Value.type "method-wrapper" == Value.type "method-wrapper") = true by decide, if_true]
  refine PySem.W.KFB.if_so (by decide) ?_
  refine wpAny_bind (PySem.W.check_bound_init FB.toExcCallFacts hC he rfl ?_)
  refine wpAny_bind (wpAny_pure (wpAny_pure ?_))
  refine ⟨plainId_quiet FB.init.plain _, codeAny_builtin FB.initEntry ?_⟩
  exact PySem.W.exc_init_tree (cls := .ref C) (t0 := t0) (dv := none) (c2 := .none) (c3 := .none) (b4 := .bool false) he hrest fun h' k e' _ => hq h' _ k e'
end
/-- what the text and the class have -/
structure SupK (P : Program) (K : PySem.W.Frag) (qual : Str) (params : Arguments) (body : List Stmt) (scope : Scope) (fI cc cda C : Addr) (ps : List Str) : Prop where
  T : OexC K C
  fn : ∃ oc od osl dV kV doc pm an ct, K.lookup fI = some ⟨oc, od, .func (iniFn qual params body scope cc dV kV doc pm an (.ref cda) ct), osl⟩ ∧ ∀ us : List Value, us.length = ps.length → bindArgs (iniFn qual params body scope cc dV kV doc pm an (.ref cda) ct) ⟨us, []⟩ = pure (ps.zip us)
  hd : ∃ ar, (params.posonlyargs ++ params.args).head? = some ar ∧ ar.arg = "self"
  qn : PySem.W.codeIn K (.ref cda) qual = true
  code : ∃ ccl cdd vs ccs file tf, K.lookup cda = some ⟨ccl, cdd, .fields vs, ccs⟩ ∧ vs[2]? = some (.str file tf) ∧ ((P.main.file : Str) == file) = true
  top : (P.main.scope.names.lookup ("super" : Str)).isSome = false
  cell : ∃ cl cld csl, K.lookup cc = some ⟨cl, cld, .cell (some (.ref C)), csl⟩
  cls : (PySem.W.clsIn K C).isSome = true
  mro : PySem.W.mroIn K C (.ref C) = some true
  opq : PySem.W.nsIn K cStatics "thirdparty.any" = some none
  sup : PySem.W.ks_superIn K C C "__init__" = some (some (.builtin "ValueError.__init__"))
  sub : PySem.W.subIn K (.ref C) (.type "ValueError") = some true
  ini : PySem.W.findIn K (.ref C) "__init__" = some (some (.ref fI))
  typ : PySem.W.typeIn K (.ref fI) = some (.type "function")
section
variable {CX : CXT} {P : Program} {w : World} {K : PySem.W.Frag} {mg : Str → Option Value} {base : Heap} {ps : List Str} {qual : Str} {params : Arguments} {body : List Stmt} {scope : Scope} {f cc cda C : Addr} {A : Around} {outer : List PySem.Env} {s s0 : Shared} {H H0 : Hp} {E : XK}
theorem boot_super : bootBuiltins "super" = some (.type "super") := by decide +kernel
theorem sup_run {a : Addr} {σ : L2.St} {code : Str} {j : Nat} {p0 p1 p2 p3 p4 p5 : Pos} {body2 : List Stmt} {Q : Flow → Shared → Prop} {E' : Value → Shared → Prop} (S : IniS ps scope) (Z : SupK P K qual params body scope f cc cda C ps) (hm : mg "super" = none)
    (hi : ∀ L, interactive (iniEnv qual scope L f (.ref cda) cc) = false) (pl : PySem.Sem Bool)
    (he : ∀ L, eval (.Call (.Attribute (.Call (.Name "super" p0) [] [] p1) "__init__" p2) [.Constant (.str code) j p3] [] p4) (iniEnv qual scope L f (.ref cda) cc) = (do
      let ov ← attributeBase (.Call (.Name "super" p0) [] [] p1) "__init__" (iniEnv qual scope L f (.ref cda) cc) (eval (.Call (.Name "super" p0) [] [] p1) (iniEnv qual scope L f (.ref cda) cc))
      standAt p2.atName
      let (f_1, first) ← holding [ov] (getMethod ov "__init__" pl)
      callWith p4 f_1 first (backTo p4 (starEach [.Constant (.str code) j p3] (iniEnv qual scope L f (.ref cda) cc))) []))
    (I : Inv (iniCx CX P w K mg base ps qual scope f (.ref cda) cc A outer s0 H0 E) [] σ H s) (h0 : ps[0]? = some ("self" : Str)) (hs : σ[0]? = some (some (.ref a))) (ha : H a = some (exo a C none))
    (hq : ∀ s', Inv (iniCx CX P w K mg base ps qual scope f (.ref cda) cc A outer s0 H0 E) [] σ H s' → Q .next s') :
    PySem.wpAt (model P w) (A.deeper (iniEnv qual scope s0.heap.objs.size f (.ref cda) cc)) (.func body2 (iniEnv qual scope s0.heap.objs.size f (.ref cda) cc)) (exec (.Expr (.Call (.Attribute (.Call (.Name "super" p0) [] [] p1) "__init__" p2) [.Constant (.str code) j p3] [] p4) p5) (iniEnv qual scope s0.heap.objs.size f (.ref cda) cc)) Q E' s := by
  have KX : K.In s.heap := I.kIn
  obtain ⟨oc, od, osl, dV, kV, doc, pm, an, ct, lk, _⟩ := Z.fn
  obtain ⟨ar, hp, har⟩ := Z.hd
  obtain ⟨ccl, cdd, vs, ccs, file, tf, hcode, hvs, hfile⟩ := Z.code
  obtain ⟨cl, cld, csl, hcell⟩ := Z.cell
  obtain ⟨nm, q, N, bs, bm, sn, sub, ab, col, dd, k0, k1, k2, k3, k5, hC, hbm⟩ := Z.T.cls
  obtain ⟨t1, ho⟩ := exo_at I.hok ha
  obtain ⟨m, hns, hl⟩ := I.loc
  obtain ⟨u, ru, lu⟩ := hl 0 "self" (.ref a) h0 hs (.inl (S.par _ (List.mem_of_getElem? h0)))
  obtain rfl : u = Value.ref a := ru
  have hself : m "self" = some (.ref a) := by
    rcases lu with ⟨_, e⟩ | ⟨e, _⟩
    · exact e
    · have e' := S.par _ (List.mem_of_getElem? h0)
      rcases e with e | e
      · have e : scope.names.lookup ("self" : Str) = some .cell := e
        rw [e'] at e
        cases e
      · have e : scope.names.lookup ("self" : Str) = some .free := e
        rw [e'] at e
        cases e
  obtain ⟨mb, b1, b2⟩ := I.mod.blt
  have hgl : s.heap.Ns mainGlobals mg := I.mod.glob.keeps I.bk
  have hbl : s.heap.Ns builtinsNs mb := b1.keeps I.bk
  refine ks_wpAt_Expr_any ?_ (hi _)
  refine ks_wpAt_MethodCall (pl := pl) ?_ (he _)
  refine ks_wpAt_super_base (env := iniEnv qual scope s0.heap.objs.size f (.ref cda) cc) S.sup S.cls (by decide) rfl (KX _ _ lk) rfl hp rfl (KX _ _ hcode) rfl hvs hfile Z.top ?_
  refine PySem.W.ks_loadName_global S.kind S.sup (Calls.loadGlobal_builtin (env := iniEnv qual scope s0.heap.objs.size f (.ref cda) cc) hgl hm hbl ((b2 _ (by decide)).trans boot_super) ⟨rfl, ?_⟩)
  refine wpAny_loadName_free S.kind S.cls rfl ⟨_, KX _ _ hcell, rfl⟩ ?_
  rw [har]
  refine wpAny_loadName_local S.kind (S.par _ (List.mem_of_getElem? h0)) hns hself ?_
  obtain ⟨hp, g, d, t, os⟩ := s
  have hCh : hp.get? C = some _ := KX _ _ hC
  have hcl : PySem.W.clsIn K C = some { name := nm, bases := bs, mro := .ref C :: bm, ns := N, qualname := q, hasDict := true, slotNames := sn, subclasses := sub, abstract := ab, collection := col, hasDel := false } := by unfold PySem.W.clsIn; rw [hC] <;> rfl
  refine ks_wpAny_isType_cls hCh rfl ⟨rfl, ?_⟩
  refine ks_wpAny_call_super hCh rfl ho rfl (fun c e => by cases e) (PySem.W.looks_mroIn KX Z.mro) (fun h1 e1 kk1 => ?_)
  have X1 : K.In h1 := KX.keeps kk1
  have ho1 := kk1 _ _ ho
  have hxC : a ≠ C := fun z => by
    rw [z, hCh] at ho
    cases ho
  have J : PySem.W.InstAt h1 a { cls := .ref C, data := .fields #[.ref t1, .none, .none, .none, .bool false, .none] } C none := ⟨ho1, rfl, rfl, trivial⟩
  have hf := Z.sup
  unfold PySem.W.ks_superIn at hf
  rw [hcl, Option.bind_some] at hf
  refine PySem.W.kxs_getMethod PySem.W.kxs_ValueError e1 (PySem.W.looks_opaque X1 Z.opq) (l₀ := .ref C :: bm) (fun A Q E s k q => wpAny_bind ((PySem.W.looks_clsIn X1 hcl) A _ E s k (wpAny_pure q))) rfl X1 hf (J.type.andThen (PySem.W.looks_subIn X1 Z.sub)) hxC (by decide) ?_
  have hu : (h1.push (PySem.W.kxs_mw "ValueError.__init__" a)).get? h1.objs.size = some (PySem.W.kxs_mw "ValueError.__init__" a) := Heap.get?_push_at rfl rfl
  have kk2 : ∀ b o, hp.get? b = some o → (h1.push (PySem.W.kxs_mw "ValueError.__init__" a)).get? b = some o := fun b o e => Heap.get?_push_of_some _ (kk1 b o e)
  refine PySem.W.kxs_callWith (i := "ValueError.__init__") (x := a) (u := h1.objs.size) rfl (PySem.Calls.evalArgs_plain ?_)
  show wpAny _ _ (spliced [(false, eval (.Constant (.str code) j p3) _)]) _ _ _
  refine Calls.spliced_cons (Calls.Constant_str ?_)
  refine Calls.spliced_nil ⟨hu, ?_⟩
  refine call_vw (kk2 _ _ hCh) (kk2 _ _ ho) hu (by simp [sizeLine_eq]) fun h3 t3 k3 e3 => ?_
  refine hq _ ?_
  have W := I.write (t' := t + 1 + 1) (x := a) (e := a) (o := exo a C none) (h' := h3) (by rw [ha]; exact True.intro) (.inl rfl) (fun b o hb e => k3 b o hb (kk2 b o e)) ⟨_, e3⟩ (exo_ok e3)
  have eu : upd H a (exo a C none) = H := by
    funext b
    by_cases hb : b = a
    · rw [hb, upd_same, ha]
    · rw [upd_ne hb]
  rw [eu] at W
  exact W
def spIni (C : Addr) (ts : L2.TS) (ps : List Str) : Sp := fun vs H Q _ => ∃ (a : Addr) (ys : List V), vs = .ref a :: ys ∧ vs.length = ps.length ∧ H a = some (exo a C none) ∧ ts { nx := fun _ H' => Q .non H', rt := Q } (L2.start ps vs) H
theorem fn_exi {code : Str} {j k : Nat} {p0 p1 p2 p3 p4 p5 : Pos} {rest : List Stmt} {ts : L2.TS} (S : IniS ps scope) (Z : SupK P K qual params (.Expr (.Call (.Attribute (.Call (.Name "super" p0) [] [] p1) "__init__" p2) [.Constant (.str code) j p3] [] p4) p5 :: rest) scope f cc cda C ps) (hm : mg "super" = none) (h0 : ps[0]? = some ("self" : Str))
    (hi : ∀ L, interactive (iniEnv qual scope L f (.ref cda) cc) = false) (pl : PySem.Sem Bool)
    (he : ∀ L, eval (.Call (.Attribute (.Call (.Name "super" p0) [] [] p1) "__init__" p2) [.Constant (.str code) j p3] [] p4) (iniEnv qual scope L f (.ref cda) cc) = (do
      let ov ← attributeBase (.Call (.Name "super" p0) [] [] p1) "__init__" (iniEnv qual scope L f (.ref cda) cc) (eval (.Call (.Name "super" p0) [] [] p1) (iniEnv qual scope L f (.ref cda) cc))
      standAt p2.atName
      let (f_1, first) ← holding [ov] (getMethod ov "__init__" pl)
      callWith p4 f_1 first (backTo p4 (starEach [.Constant (.str code) j p3] (iniEnv qual scope L f (.ref cda) cc))) []))
    (hb : ∀ (A : Around) (outer : List PySem.Env) (s : Shared) (H : Hp) (E : XK), PSs (iniCx CX P w K mg base ps qual scope f (.ref cda) cc A outer s H E) rest ts) :
    ∃ fd, FnOk P w K mg base CX (k + 1) f fd ps (spIni C ts ps) ∧ Binds K fd ps [] := by
  obtain ⟨oc, od, osl, dV, kV, doc, pm, an, ct, lk, hbind⟩ := Z.fn
  refine ⟨_, ⟨fun vs H Q E ⟨a, ys, _, e, _⟩ => e, fun A outer s H args us vs Q E hr e0 hbd r hsp => ?_⟩, Binds.all hbind⟩
  obtain ⟨a, ys, rfl, hl, ha, hts⟩ := hsp
  have KX : K.In s.heap := e0.mod.kin.keeps fun b o e => (e0.bs b o e).1
  have lim : s.heap.NoLimit := e0.mod.nolimit.keeps fun b o e => (e0.bs b o e).1
  obtain ⟨cl, cld, csl, hcell⟩ := Z.cell
  have hlu : us.length = ps.length := by rw [← r.length, hl]
  refine ks_codeAny_call_defAt hr.depth (KX _ _ lk) rfl lim (PySem.W.codeRec_of KX Z.qn) rfl hbd S.nocell (fun x hx => S.par x.1 ?_) (fun h₀ hns kp => ?_) S.co S.gen S.kind
  · obtain ⟨n, v⟩ := x
    exact (List.of_mem_zip hx).1
  have I : Inv (iniCx CX P w K mg base ps qual scope f (.ref cda) cc A outer s H E) [] (L2.start ps (.ref a :: ys)) H { s with heap := h₀, toks := s.toks + (ps.zip us).length } := inv_ini S hr.hd e0 hl r hns kp hcell rfl
  refine ks_wpAt_execs_cons (sup_run S Z hm hi pl he I h0 (by unfold L2.start; rfl) ha fun s' I' => ?_)
  refine wpAt_of_wpAny (wpAny_mono ((hb A outer s H E).run [] _ _ _ _ I' hts) (fun fl s2 hs => ?_) fun e s2 hs => hs)
  have fin : ∀ {σ' : L2.St} {H' : Hp} {v : V} {u : Value}, Inv (iniCx CX P w K mg base ps qual scope f (.ref cda) cc A outer s H E) [] σ' H' s2 → L2.RelV v u → Q v H' → CE outer P w H s Q u s2 :=
    fun {σ' H' v u} J rv q => ⟨v, H', J.os, J.bare, J.base, J.hok, rv, q⟩
  cases fl with
  | ret u =>
    obtain ⟨v, σ', H', J, rv, q⟩ := hs
    exact fin J rv q
  | next =>
    obtain ⟨σ', H', J, q⟩ := hs
    exact fin (v := V.non) (u := Value.none) J rfl q
  | brk =>
    obtain ⟨_, _, _, q⟩ := hs
    exact False.elim q
  | cont =>
    obtain ⟨_, _, _, q⟩ := hs
    exact False.elim q
end
end G

/-! exceptions: raised, let through -/
namespace G
open PySem PySem.Spec PyProof.Rows L2
section
variable {CX : CXT} {P : Program} {w : World} {K : PySem.W.Frag} {mg : Str → Option Value} {base : Heap} {qual : Str} {params : Arguments} {body : List Stmt} {scope : Scope} {f cc cda C : Addr} {A : Around} {outer : List PySem.Env} {s : Shared} {H : Hp} {E : XK}
/-- self.code = text; self.f = f -/
def tIni2 (K : PySem.W.Frag) (code f : Str) : L2.TS := tSeq (tOst K "code" (tVar 0) (tC (.str code))) (tOst K f (tVar 0) (tVar 1))
theorem ini_rest2 {fl code : Str} {j : Nat} {p1 p2 p3 p4 p5 p6 p7 p8 : Pos} (S : IniS ["self", fl] scope) (hdb : (fl == ("__debug__" : Str)) = false) (hcd : (fl == ("__classdict__" : Str)) = false) :
    PSs (iniCx CX P w K mg base ["self", fl] qual scope f (.ref cda) cc A outer s H E) [.Assign [.Attribute (.Name "self" p1) "code" p2] (.Constant (.str code) j p3) p4, .Assign [.Attribute (.Name "self" p5) fl p6] (.Name fl p7) p8] (tIni2 K code fl) := by
  have v0 : Vis (iniCx CX P w K mg base ["self", fl] qual scope f (.ref cda) cc A outer s H E).env.scope "self" := .inl (S.par _ (by simp))
  have v1 : Vis (iniCx CX P w K mg base ["self", fl] qual scope f (.ref cda) cc A outer s H E).env.scope fl := .inl (S.par _ (by simp))
  exact pss_cons (ps_ost (pe_var (i := 0) rfl v0) pe_str) (pss_one (ps_ost (pe_var (i := 0) rfl v0) (pe_var (i := 1) rfl v1 hdb hcd)))
theorem ini_ok2 {a : Addr} {y : V} {fl code : Str} {Q : VK} (T : OexC K C) (ha : H a = some (exo a C none)) (n1 : PySem.W.findIn K (.ref C) "code" = some none) (n2 : PySem.W.findIn K (.ref C) fl = some none)
    (h : ∀ dx, H dx = none → dx ≠ a → Q .non (upd (upd (upd H dx (exd dx [("code", .str code)])) a (exo a C (some dx))) dx (exd dx [(fl, y), ("code", .str code)]))) :
    spIni C (tIni2 K code fl) ["self", fl] [.ref a, y] H Q E := by
  refine ⟨a, [y], rfl, rfl, ha, ?_⟩
  refine ⟨.ref a, rfl, a, C, rfl, T, n1, .inl ⟨ha, fun dx hdx hne => ?_⟩⟩
  refine ⟨y, rfl, .ref a, rfl, a, C, rfl, T, n2, .inr ⟨dx, [("code", .str code)], upd_same, ?_, by simp, h dx hdx hne⟩⟩
  rw [upd_ne hne, upd_same]
end
/-- an exception class of the text -/
structure ExcOk (P : Program) (w : World) (K : PySem.W.Frag) (mg : Str → Option Value) (base : Heap) (C : Cf) (x : Str) (c : Nat) (code : List Nat) (fl : Str) (k : Nat) : Prop where
  T : OexC K (C.ca c)
  nm : C.nm c = (["code", fl] : List Str)
  ne : fl ≠ "code"
  mgx : mg x = some (.ref (C.ca c))
  n1 : PySem.W.findIn K (.ref (C.ca c)) "code" = some none
  n2 : PySem.W.findIn K (.ref (C.ca c)) fl = some none
  ex : ∃ fI fd, FnOk P w K mg base CX0 k fI fd ["self", fl] (spIni (C.ca c) (tIni2 K (enc code) fl) ["self", fl]) ∧ Binds K fd ["self", fl] [] ∧ PySem.W.findIn K (.ref (C.ca c)) "__init__" = some (some (.ref fI)) ∧ PySem.W.typeIn K (.ref fI) = some (.type "function")
/-- raise x(e) -/
def raiseV (c : Nat) (code : List Nat) (vs : List VD) (M : Mem) : Out := match vs with
  | [.d z] => .exc c [.str code, z] M
  | _ => .fail
def s_raise (c : Nat) (code : List Nat) (ms : Mx (List VD)) : Sx := fun ρ M => (ms ρ M).out (raiseV c code)
section
variable {X : Cx} {C : Cf} {E : XK} {CX : CXT} {k : Nat}
theorem xs_raise {i j : Nat} {code : List Nat} {fl x : Str} {e : Expr} {ms : Mx (List VD)} {p pos pos' : Pos} (c : Cxx X C E CX k) (Z : ExcOk X.prog X.w X.K X.mg X.base C x i code fl j) (ha : PXA X C E [e] ms) (hj : j + 1 ≤ k := by decide) (hg : Gl X x := by rfl)
    (hdb : (x == ("__debug__" : Str)) = false := by decide) (he : starEach [e] X.env = (false, eval e X.env) :: starEach [] X.env := by rfl) (hpl : (backTo pos (starEach [] X.env)).any (·.1) = false := by rfl) : PXS X C E (.Raise (some (.Call (.Name x p) [e] [] pos)) none pos') (s_raise i code ms) := by
  obtain ⟨ta, pa, sa⟩ := ha
  obtain ⟨fI, fd, F, hb, ini, typ⟩ := Z.ex
  refine ⟨_, ps_raise c.calm c.tk (pmk_oex Z.T ini typ F (c.hr.mono hj) hb .nil pass0 hg Z.mgx pa hdb he hpl), fun W σ H ρ M D ok sl p => ?_⟩
  refine sa W σ H ρ M _ ok sl (post_out p fun a M1 W1 H1 xs l1 ok1 ra p1 => ?_)
  unfold raiseV at p1
  split at p1
  · rename_i z
    obtain ⟨y, rfl, r⟩ := ra.one
    refine ⟨by simp, fun aa haa => ini_ok2 Z.T upd_same Z.n1 Z.n2 fun dx hdx hne => ?_⟩
    have hd1 : H1 dx = none := by rw [upd_ne hne] at hdx; exact hdx
    refine ⟨rfl, dx, [(fl, y), ("code", .str (enc code))], by rw [upd_ne (Ne.symm hne), upd_same], upd_same, hd1, ?_⟩
    have eH : upd (L2.del (upd (upd (upd (upd H1 aa (exo aa (C.ca i) none)) dx (exd dx [("code", .str (enc code))])) aa (exo aa (C.ca i) (some dx))) dx (exd dx [(fl, y), ("code", .str (enc code))])) aa) dx (.xd [(fl, y), ("code", .str (enc code))]) = upd H1 dx (.xd [(fl, y), ("code", .str (enc code))]) := by
      funext b
      by_cases hb : b = dx
      · rw [hb, upd_same, upd_same]
      · rw [upd_ne hb, upd_ne hb]
        by_cases ha : b = aa
        · rw [ha, L2.del_same, haa]
        · rw [L2.del_ne ha, upd_ne hb, upd_ne ha, upd_ne hb, upd_ne ha]
    rw [eH]
    obtain ⟨ok2, l2⟩ := ok1.new (o := .xd [(fl, y), ("code", .str (enc code))]) hd1
    refine p1 _ _ _ (Step.new ok1 hd1) ok2 (Rep.exn (vs := [.str (enc code), y]) upd_same (by rw [Z.nm]; rfl) (fun j f v e1 e2 => ?_) (.cons (.str code) (.cons (Rep.mono l2.1 r) .nil)))
    rw [Z.nm] at e1
    match j, e1, e2 with
    | 0, e1, e2 =>
      cases e1
      cases e2
      have : (("code" : Str) == fl) = false := by simpa using Ne.symm Z.ne
      simp [List.lookup, this]
    | 1, e1, e2 =>
      cases e1
      cases e2
      simp [List.lookup]
    | n + 2, e1, e2 => simp at e1
  · exact p1.elim
end
/-! defs that let exceptions through -/
def trimX (n : Nat) : Res VD → Res VD
  | .ok v M => trim n (.ok v M)
  | .exc c fs M => if (M.take n).all (moLt n) then .exc c fs (M.take n) else .exc c fs M
  | .fail => .fail
def fnX (n : Nat) (body : Sx) : List VD → Mem → Res VD := fun ds M => trimX M.length (runF n body ds M)
section
variable {P : Program} {w : World} {K : PySem.W.Frag} {mg : Str → Option Value} {base : Heap} {C : Cf}
theorem ExcAt.mono {W W' : Wd} {dx : Addr} {c : Nat} {fs : List D} (l : Same W.B W'.B) (h : ExcAt C W dx c fs) : ExcAt C W' dx c fs := Rep.mono l h
theorem mk_hbX {qual : Str} {scope : Scope} {bd : List Stmt} {f : Addr} {N ps : List Str} {k n : Nat} {body : Sx} (S : FnScope N ps scope) (hK : C.K = K)
    (hb : ∀ (cdv : Value) (A : Around) (outer : List PySem.Env) (s : Shared) (H : Hp) (E : XK), Cxx (cxOf (L2.CX P w) P w K mg base N qual scope f cdv A outer s H E) C E (L2.CX P w) k → PXSs (cxOf (L2.CX P w) P w K mg base N qual scope f cdv A outer s H E) C E bd body)
    (cdv : Value) (A : Around) (outer : List PySem.Env) (s : Shared) (H : Hp) (vs : List V) (Q : VK) (E : XK) (hr : Room k (A.deeper (envOfC qual scope s.heap.objs.size f cdv))) (h : spD C n (fnX N.length body) vs H Q E) :
    ∃ t, PSs (cxOf (L2.CX P w) P w K mg base N qual scope f cdv A outer s H E) bd t ∧ t { nx := fun _ H' => Q .non H', rt := Q } (L2.start N vs) H := by
  obtain ⟨W, M, ds, ok, r, hl, p⟩ := h
  have tk : Takes (cxOf (L2.CX P w) P w K mg base N qual scope f cdv A outer s H E) (fun cls d _ H => E cls d H) := takes_of rfl rfl rfl rfl
  have tk0 : ∀ Y : Cx, Y.prog = P → Y.w = w → Passes (L2.CX P w) Y E0 := fun Y e1 e2 => by
    subst e1
    subst e2
    exact passes_call (W := fun _ _ _ _ => False) LamX.takes0 fun _ _ _ _ h => h
  obtain ⟨t, pt, st⟩ := hb cdv A outer s H E ⟨hK, rfl, S.nd, passes_of rfl, passes_call tk fun _ _ _ _ h => h, tk0, hr, tk⟩
  refine ⟨t, pt, st W _ H _ M _ ok (slots_start r) ?_⟩
  unfold fnX runF at p
  have fin : ∀ {v : VD} {M1 : Mem}, post C (relV C) E Q W H (trim M.length (.ok v M1)) → ∀ W1 H1 x, Step W H W1 H1 → Ok C W1 H1 M1 → RepV C W1 x v → Q x H1 := fun {v M1} p W1 H1 x s1 ok1 r1 => by
    unfold trim at p
    dsimp only at p
    split at p
    · rename_i hc
      rw [Bool.and_eq_true] at hc
      obtain ⟨s2, ok2⟩ := Ok.take s1 ok1 (Nat.le_of_eq ok.len) hc.2
      exact p _ _ _ s2 ok2 (r1.take hc.1)
    · exact p _ _ _ s1 ok1 r1
  cases q : body (ds.map some ++ List.replicate (N.length - ds.length) none) M with
  | nx ρ M1 =>
    rw [q] at p
    exact fun W1 H1 σ1 s1 ok1 _ => fin (v := .d .non) p W1 H1 _ s1 ok1 (show Rep C W1.B V.non D.non from .non)
  | ret v M1 =>
    rw [q] at p
    exact fin p
  | brk _ _ => rw [q] at p; exact p.elim
  | ct _ _ => rw [q] at p; exact p.elim
  | exc c fs M1 =>
    rw [q] at p
    replace p : post C (relV C) E Q W H (if (M1.take M.length).all (moLt M.length) then .exc c fs (M1.take M.length) else .exc c fs M1) := p
    split at p
    · rename_i hc
      intro W1 H1 dx s1 ok1 ea
      obtain ⟨s2, ok2⟩ := Ok.take s1 ok1 (Nat.le_of_eq ok.len) hc
      exact p _ _ _ s2 ok2 (ExcAt.mono (W' := ⟨W1.B, W1.al.take M.length⟩) (Same.refl _) ea)
    · exact p
  | fail => rw [q] at p; exact p.elim
theorem fn_mkX {x qual : Str} {st : Stmt} {f : Addr} {fd : FuncData} {N ps : List Str} {k n : Nat} {body : Sx} (F : Fun K x qual st f fd) (S : FnScope N ps (defScope st)) (hK : C.K = K) (hn : ps.length = n)
    (hb : ∀ (cdv : Value) (A : Around) (outer : List PySem.Env) (s : Shared) (H : Hp) (E : XK), Cxx (cxOf (L2.CX P w) P w K mg base N qual (defScope st) f cdv A outer s H E) C E (L2.CX P w) k → PXSs (cxOf (L2.CX P w) P w K mg base N qual (defScope st) f cdv A outer s H E) C E (defBody st) body) :
    FnOk P w K mg base (L2.CX P w) (k + 1) f fd ps (spD C n (fnX N.length body)) :=
  F.okX S (fun vs H Q E h => by rw [spD_len vs H Q E h, hn]) fun cdv A outer s H vs Q E hr h => mk_hbX S hK hb cdv A outer s H vs Q E hr h
theorem fn_mkDX {x qual : Str} {params : Arguments} {bd : List Stmt} {scope : Scope} {dvs : List V} {kws : List (Str × V)} {f : Addr} {fd : FuncData} {N ps : List Str} {k n : Nat} {body : Sx} (F : FunD K x qual params bd scope dvs kws f fd) (S : FnScope N ps scope) (hK : C.K = K) (hn : ps.length = n)
    (hb : ∀ (cdv : Value) (A : Around) (outer : List PySem.Env) (s : Shared) (H : Hp) (E : XK), Cxx (cxOf (L2.CX P w) P w K mg base N qual scope f cdv A outer s H E) C E (L2.CX P w) k → PXSs (cxOf (L2.CX P w) P w K mg base N qual scope f cdv A outer s H E) C E bd body) :
    FnOk P w K mg base (L2.CX P w) (k + 1) f fd ps (spD C n (fnX N.length body)) :=
  F.ok S (fun vs H Q E h => by rw [spD_len vs H Q E h, hn]) fun cdv A outer s H vs Q E hr h => mk_hbX S hK hb cdv A outer s H vs Q E hr h
theorem fn_mkSX {name qual : Str} {params : Arguments} {bd : List Stmt} {scope : Scope} {f : Addr} {N ps : List Str} {pv : Str} {k n : Nat} {body : Sx} {oc dV kV doc pm cdv ct : Value} {od an : Option Addr} {osl : Array (Option Value)}
    (lk : K.lookup f = some ⟨oc, od, .func (PySem.W.fnOf name qual params bd scope dV kV doc pm an cdv ct), osl⟩) (hcd : PySem.W.codeIn K cdv qual = true) (S : FnScope N (ps ++ [pv]) scope) (hK : C.K = K) (hn : ps.length = n)
    (hbd : ∀ us rest : List Value, us.length = ps.length → bindArgs (PySem.W.fnOf name qual params bd scope dV kV doc pm an cdv ct) ⟨us ++ rest, []⟩ = (newTuple rest >>= fun t => pure (ps.zip us ++ [(pv, t)])))
    (hb : ∀ (cdv : Value) (A : Around) (outer : List PySem.Env) (s : Shared) (H : Hp) (E : XK), Cxx (cxOf (L2.CX P w) P w K mg base N qual scope f cdv A outer s H E) C E (L2.CX P w) k → PXSs (cxOf (L2.CX P w) P w K mg base N qual scope f cdv A outer s H E) C E bd body) :
    FnR P w K mg base (L2.CX P w) (k + 1) f (spP C (arS n (fnX N.length body))) :=
  (StX.fn_star (sp := spD C (n + 1) (fnX N.length body)) lk hcd S StX.cxUp hbd fun A outer s H vs Q E hr h =>
    mk_hbX S hK hb cdv A outer s H vs Q E hr h).imp fun vs H Q E ⟨W, M, ds, ok, r, p⟩ => by
      unfold arS at p
      split at p
      · rename_i hl
        split at p
        · rename_i rest e
          split at p
          · rename_i hz
            have hlen := r.length
            have rr := (r.dropN n).dat e
            refine ⟨vs.take n, vs.drop n, (List.take_append_drop n vs).symm, by rw [List.length_take, hn]; omega, by rw [rr.length]; exact lim_le hz, fun q hq => ?_⟩
            obtain ⟨ok2, l⟩ := ok.new (o := .tup (vs.drop n)) hq
            refine ⟨W.put q (.tup (vs.drop n)), M, _, ok2, ((r.takeN n).mono l).append (.cons (d := .d (.tup rest)) (Rep.tup (.inl (.inl (by show upd W.B q _ q = _; rw [upd_same]))) (rr.mono l.1)) .nil), by rw [List.length_append, List.length_take]; simp; omega, post.mono (Step.new ok hq) p⟩
          · exact p.elim
        · exact p.elim
      · exact p.elim
/-- a def that lets nothing out, where exceptions are let through -/
theorem FnOk.up {CX : CXT} {k : Nat} {f : Addr} {fd : FuncData} {ps : List Str} {sp : Sp} (F : FnOk P w K mg base CX0 k f fd ps sp) : FnOk P w K mg base CX k f fd ps sp :=
  ⟨F.len, fun A outer s H args us vs Q E hr e0 hb r h => codeAny_mono (F.run A outer s H args us vs Q E hr e0 hb r h) fun r s' q => by
    cases r with
    | error e => exact (show False from q).elim
    | ok fl => cases fl <;> exact q⟩
theorem FnR.up {CX : CXT} {k : Nat} {f : Addr} {sp : Sp} (F : FnR P w K mg base CX0 k f sp) : FnR P w K mg base CX k f sp :=
  fun A outer s H us vs Q E hr e0 r h => codeAny_mono (F A outer s H us vs Q E hr e0 r h) fun r s' q => by
    cases r with
    | error e => exact (show False from q).elim
    | ok fl => cases fl <;> exact q
theorem Callee.up {CX : CXT} {x : Str} {j n : Nat} {m} (h : Callee P w K mg base CX0 C x j n m) : Callee P w K mg base CX C x j n m := by
  obtain ⟨f, fd, ps, F, a, b, c⟩ := h.ex
  exact ⟨f, fd, ps, FnOk.up F, a, b, c⟩
end
end G

/-! a lambda is made -/
namespace G
open PySem PySem.Spec PyProof.Rows L2
section
variable {M : Model} {A : Around} {E : Value → Shared → Prop} {s : Shared} {Q : Value → Shared → Prop}
/-- the tuple of the captured cells, if there are any -/
theorem cells_tuple {items : List Value} {b : Bool} {k : Value → PySem.Sem Value} (h : ∀ ct g, (∀ x o, s.heap.get? x = some o → g.get? x = some o) → wpAny M A (k ct) Q E { s with heap := g }) : wpAny M A (if b = true then (pure Value.none >>= k) else (newTextTuple items >>= k)) Q E s := by
  cases b with
  | true => exact wpAny_bind (wpAny_pure (h .none s.heap fun _ _ e => e))
  | false => exact wpAny_bind (wpAny_newTextTuple (h _ _ fun x o e => Heap.get?_push_of_some _ e))
end
section
variable {X : Cx} {pins : List (Addr × Obj)} {σ : L2.St} {H : Hp} {s : Shared} {L : LamI}
theorem lamO_ok {P : Program} {w : World} {H : Hp} {h : Heap} {f c' : Addr} {cl : List (Str × Addr)} {dv pm ct : Value} (e : h.get? f = some (lamObj L (cloFrom cl L.scope.names []) dv pm c' ct)) : ObjOk P w H h f (LamO f L cl c' dv) :=
  ⟨⟨pm, ct, e⟩, ⟨_, e⟩, fun h1 h2 ⟨pm, ct, q⟩ st => ⟨pm, ct, st _ q⟩⟩
theorem tupO_ok {P : Program} {w : World} {H : Hp} {h : Heap} {t : Addr} {v : Value} (e : h.get? t = some { cls := .type "tuple", data := .seq #[v] }) : ObjOk P w H h t (TupO t) :=
  ⟨⟨v, e⟩, ⟨_, e⟩, fun h1 h2 ⟨v, q⟩ st => ⟨v, st _ q⟩⟩
theorem lam_tail {T : List (Addr × Str)} {c P : Addr} {pos : Pos} {dv : Value} {Q : Value → Shared → Prop} {E : Value → Shared → Prop} (I : Inv X pins σ H s) (TB : LamX.TabB X.base X.mg c P) (hcode : X.env.code = .ref c)
    (hm : (P, L.qual) ∈ T) (hu : ∀ p ∈ T, p.1 = P → p.2 = L.qual) (hT : LamX.Tabs T H) (hfree : ∀ y ∈ L.scope.names, y.2 = .free → ∃ c, X.env.cells.lookup y.1 = some c)
    (h : ∀ (f c' : Addr) (H1 : Hp) (s' : Shared), Inv X pins σ (upd H1 f (LamO f L X.env.cells c' dv)) s' → (∀ b o, H b = some o → b ≠ P → H1 b = some o) → LamX.Tabs T H1 → H1 f = none → H1 c' = some (LamX.CodeO c' L.qual) → Q (.ref f) s') :
    wpAny (model X.prog X.w) X.A (makeTail "<lambda>" L.qual L.params (.expr L.body) L.scope X.env dv .none none pos pos.line) Q E s := by
  obtain ⟨tbl, tP, tOk, tAll⟩ := hT _ hm
  unfold makeTail
  rw [closure_ok hfree, I.ok.glob]
  refine wpAny_bind (wpAny_pure ?_)
  refine cells_tuple fun ct g up => ?_
  have I1 : Inv X pins σ H { s with heap := g } := I.kept (t' := s.toks) up
  obtain ⟨bm, ob, m1, m2, _, m3, m4, m5, m6, m7⟩ := TB.bm.keeps I1.bk
  have CH := TB.code.keeps I1.bk
  have gP : g.get? P = some { cls := .none, data := .fields tbl } := I1.hok P _ tP
  have globs : g.Ns mainGlobals X.mg := I1.mod.glob.keeps I1.bk
  cases known : codeAmong pos tbl.toList with
  | none =>
    refine wpAny_bind (wpAny_functionCodeX hcode (CH.code gP tOk) (CH.tab gP) known fun n g2 tk ext new lt _ rec' grown _ => ?_)
    have globs2 := globs.extBut ext TB.gP
    refine wpAny_bind (wpAny_builtinsFor globs2 m1 m2 (ext _ _ m3 m4) m5 m6 m7 (wpAny_bind (wpAny_nsGet globs2 (wpAny_bind (wpAny_pure (wpAny_newObj_type ?_ (by size_fits)))))))
    obtain ⟨n', oc, vs, t, same, r1, r2, r3⟩ := rec'
    cases same
    have fresh : H n = none := I1.hok.fresh new
    have I2 := LamX.inv_table (t' := tk) (q := L.qual) (more := #[rawInt pos.line, rawInt pos.col, .ref n]) (h' := g2) I1 tP ext grown.2 new ⟨oc, vs, t, r1, r2, r3⟩
    have stay : ∀ b o, H b = some o → b ≠ P → upd (upd H P (.tbl (tbl ++ #[rawInt pos.line, rawInt pos.col, .ref n]))) n (LamX.CodeO n L.qual) b = some o := fun b o e ne => by
      rw [upd_ne (ne_of_none e fresh), upd_ne ne]
      exact e
    have code : ∀ c, H c = some (LamX.CodeO c L.qual) → upd (upd H P (.tbl (tbl ++ #[rawInt pos.line, rawInt pos.col, .ref n]))) n (LamX.CodeO n L.qual) c = some (LamX.CodeO c L.qual) := fun c e => stay c _ e fun z => by
      rw [z, tP] at e
      cases e
    have tabs : LamX.Tabs T (upd (upd H P (.tbl (tbl ++ #[rawInt pos.line, rawInt pos.col, .ref n]))) n (LamX.CodeO n L.qual)) := fun p hp => by
      by_cases at_ : p.1 = P
      · rw [hu p hp at_, at_]
        have as : (tbl ++ #[rawInt pos.line, rawInt pos.col, .ref n]).toList = tbl.toList ++ [rawInt pos.line, rawInt pos.col, .ref n] := by simp
        refine ⟨_, by rw [upd_ne (ne_of_none tP fresh), upd_same], by rw [as]; exact PySem.TriplesOk_snoc _ _ _ _ tOk, fun p' v hv => ?_⟩
        rw [as] at hv
        rcases LamX.among_app _ tOk hv with z | z
        · obtain ⟨c, e1, e2⟩ := tAll p' v z
          exact ⟨c, e1, code c e2⟩
        · exact ⟨n, z, upd_same⟩
      · obtain ⟨ps, q1, q2, q3⟩ := hT p hp
        refine ⟨ps, stay _ _ q1 at_, q2, fun p' v hv => ?_⟩
        obtain ⟨c, e1, e2⟩ := q3 p' v hv
        refine ⟨c, e1, stay _ _ e2 fun z => ?_⟩
        rw [z, tP] at e2
        cases e2
    exact h g2.objs.size n _ _ (I2.laid (t' := tk) (a := g2.objs.size) (o := LamO g2.objs.size L X.env.cells n dv) (h' := g2.push (lamObj L (cloFrom X.env.cells L.scope.names []) dv ((X.mg "__name__").getD .none) n ct)) (fun b o e => Heap.get?_push_of_some _ e) (Nat.le_refl _) (lamO_ok (Heap.get?_push_size _ rfl))) stay tabs (I2.hok.fresh (Nat.le_refl _)) upd_same
  | some v =>
    obtain ⟨n, same, hn⟩ := tAll pos v known
    subst same
    refine wpAny_bind (wpAny_functionCode_hit hcode (CH.code gP tOk) known ?_)
    refine wpAny_bind (wpAny_builtinsFor globs m1 m2 m4 m5 m6 m7 (wpAny_bind (wpAny_nsGet globs (wpAny_bind (wpAny_pure (wpAny_newObj_type ?_ (by size_fits)))))))
    exact h g.objs.size n H _ (I1.laid (t' := s.toks) (a := g.objs.size) (o := LamO g.objs.size L X.env.cells n dv) (h' := g.push (lamObj L (cloFrom X.env.cells L.scope.names []) dv ((X.mg "__name__").getD .none) n ct)) (fun b o e => Heap.get?_push_of_some _ e) (Nat.le_refl _) (lamO_ok (Heap.get?_push_size _ rfl))) (fun _ _ e _ => e) hT (I1.hok.fresh (Nat.le_refl _)) hn
/-- H2 is H behind a lambda that was made at f -/
def LamNew (T : List (Addr × Str)) (P : Addr) (L : LamI) (cl : List (Str × Addr)) (H : Hp) (f : Addr) (H2 : Hp) : Prop :=
  ∃ (H0 H1 : Hp) (c' : Addr) (dv : Value), ((L.one = none ∧ H0 = H ∧ dv = .none) ∨ ∃ t : Addr, L.one ≠ none ∧ H t = none ∧ H0 = upd H t (TupO t) ∧ dv = .ref t) ∧ (∀ b o, H0 b = some o → b ≠ P → H1 b = some o) ∧ LamX.Tabs T H1 ∧ H1 f = none ∧ H1 c' = some (LamX.CodeO c' L.qual) ∧ H2 = upd H1 f (LamO f L cl c' dv)
def tLam1 (T : List (Addr × Str)) (P : Addr) (L : LamI) (cl : List (Str × Addr)) : TE := fun σ H Q => LamX.Tabs T H ∧ ∀ f H2, LamNew T P L cl H f H2 → Q (.ref f) H2
def LamDef (L : LamI) (env : PySem.Env) : Prop := (L.one = none ∧ defaultsOf L.params env = ([], [])) ∨ (L.one ≠ none ∧ ∃ j p, defaultsOf L.params env = ([eval (.Constant (.int 0) j p) env], []))
theorem pe_lam {T : List (Addr × Str)} {c P : Addr} {pos : Pos} (TB : LamX.TabB X.base X.mg c P) (hcode : X.env.code = .ref c) (hm : (P, L.qual) ∈ T) (hu : ∀ p ∈ T, p.1 = P → p.2 = L.qual) (hq : X.env.qual ++ "<lambda>" = L.qual)
    (hfree : ∀ y ∈ L.scope.names, y.2 = .free → ∃ c, X.env.cells.lookup y.1 = some c) (hdef : LamDef L X.env) : PE X (.Lambda L.params L.body L.scope pos) (tLam1 T P L X.env.cells) := by
  refine ⟨fun pins s σ H Q I h => ?_⟩
  obtain ⟨hT, h⟩ := h
  rcases hdef with ⟨h1, hdef⟩ | ⟨h1, j, p, hdef⟩
  · refine PySem.W.kla_eval hdef ?_
    rw [makeFunction_eq, hq]
    simp only [List.zip_nil_right, List.filterMap_nil, List.isEmpty_nil, if_true, pure_bind]
    refine lam_tail I TB hcode hm hu hT hfree fun f c' H1 s' I' e t n hc => ?_
    exact ⟨.ref f, _, I', rfl, h f _ ⟨H, H1, c', .none, .inl ⟨h1, rfl, rfl⟩, e, t, n, hc, rfl⟩⟩
  · rw [arm_eval_Lambda, hdef]
    show wpAny _ _ (do let dv ← evalAll [eval (.Constant (.int 0) j p) X.env]; let kdv ← holding dv (evalAllOpt []); makeFunction "<lambda>" (X.env.qual ++ "<lambda>") L.params (.expr L.body) L.scope X.env dv kdv [] pos pos.line) _ _ s
    refine wpAny_bind ?_
    show wpAny _ _ (do let v ← eval (.Constant (.int 0) j p) X.env; return v :: (← holding [v] (evalAll []))) _ _ s
    refine wpAny_bind (wpAny_Constant_int ?_)
    refine wpAny_bind (wpAny_holding (wpAny_pure (wpAny_pure ?_)))
    refine wpAny_bind (wpAny_holding (wpAny_pure ?_))
    rw [makeFunction_eq, hq]
    simp only [List.zip_nil_right, List.filterMap_nil, List.isEmpty_nil, List.isEmpty_cons, Bool.false_eq_true, if_false, if_true, pure_bind]
    refine wpAny_bind (wpAny_newTextTuple ?_)
    have I1 := I.tok (s.toks + 1)
    have hn := I1.hok.fresh (Nat.le_refl s.heap.objs.size)
    have I2 := I1.laid (t' := s.toks + 1) (a := s.heap.objs.size) (o := TupO s.heap.objs.size) (h' := s.heap.push { cls := .type "tuple", data := .seq [Value.int 0 s.toks].toArray }) (fun b o e => Heap.get?_push_of_some _ e) (Nat.le_refl _) (tupO_ok (v := .int 0 s.toks) (Heap.get?_push_size _ rfl))
    have hT2 : LamX.Tabs T (upd H s.heap.objs.size (TupO s.heap.objs.size)) := hT.ext (same_upd hn)
    refine lam_tail I2 TB hcode hm hu hT2 hfree fun f c' H1 s' I' e t n hc => ?_
    exact ⟨.ref f, _, I', rfl, h f _ ⟨_, H1, c', .ref s.heap.objs.size, .inr ⟨_, h1, hn, rfl, rfl⟩, e, t, n, hc, rfl⟩⟩
end
end G

/-! a lambda as a value -/
namespace G
open PySem PySem.Spec PyProof.Rows L2
section
variable {C : Cf} {W : Wd} {H H1 : Hp} {M : Mem} {P : Addr} {q : Str}
theorem MoOk.tabs {a : Addr} {m : MO} (h : MoOk C W H a m) (e : ∀ b o, H b = some o → Plain o → H1 b = some o) : MoOk C W H1 a m := by
  cases m with
  | dead => exact h
  | lst ds =>
    obtain ⟨q1, vs, q2, q3⟩ := h
    exact ⟨q1, vs, e _ _ q2 plain_lst, q3⟩
  | ins c fs =>
    obtain ⟨q1, dx, vs, q2, q3⟩ := h
    exact ⟨q1, dx, vs, e _ _ q2 plain_ins, q3⟩
  | lsv ds =>
    obtain ⟨q1, vs, q2, q3⟩ := h
    exact ⟨q1, vs, e _ _ q2 plain_lst, q3⟩
/-- the table at P grew -/
theorem Ok.table (ok : Ok C W H M) (hm : (P, q) ∈ C.tb) (e : ∀ b o, H b = some o → b ≠ P → H1 b = some o) (t : LamX.Tabs C.tb H1) : Ok C W H1 M ∧ Step W H W H1 := by
  have hB : W.B P = none := ok.tbB _ hm
  obtain ⟨ps, hP, _⟩ := ok.tab _ hm
  have e' : ∀ b o, H b = some o → Plain o → H1 b = some o := fun b o h p => e b o h fun z => p.1 ps (by rw [z] at h; exact Option.some.inj (h.symm.trans hP))
  exact ⟨⟨fun b u h => e b u (ok.sub b u h) (ne_of_none h hB), ok.nd, ok.len, fun i a m h1 h2 => (ok.mo i a m h1 h2).tabs e', t, ok.tbB, ok.low⟩, Le.refl W, fun a o h1 h2 h3 h4 => ⟨e' a o h1 h4, h2, h3⟩⟩
/-- something of which the heap tells becomes known -/
theorem Ok.knowE {c : Addr} {φ : Heap → Prop} (ok : Ok C W H M) (h : H c = some (.ext φ)) : ∃ W', Ok C W' H M ∧ Step W H W' H ∧ W'.B c = some (.ext φ) := by
  cases hB : W.B c with
  | some o =>
    refine ⟨W, ok, Step.refl _ _, ?_⟩
    rw [hB, ← h, ok.sub _ _ hB]
  | none =>
    have hal : ∀ i : Nat, W.al[i]? ≠ some c := fun i e => by
      have hi : i < M.length := by rw [← ok.len]; exact (List.getElem?_eq_some_iff.mp e).1
      have mk := ok.mo i c _ e (List.getElem?_eq_getElem hi)
      generalize M[i] = m at mk
      by_cases hd : m = .dead
      · subst hd
        obtain ⟨o, z⟩ := mk
        rw [hB] at z
        cases z
      · obtain ⟨u, z, p⟩ := mk.plain hd
        exact p.2 φ (Option.some.inj (z.symm.trans h))
    obtain ⟨ok2, l2⟩ := ok.know h hB hal fun q hq z => by
      obtain ⟨ps, h1, _⟩ := ok.tab q hq
      rw [z, h] at h1
      cases h1
    refine ⟨_, ok2, ⟨l2, fun a o h1 h2 h3 h4 => ⟨h1, ?_, h3⟩⟩, upd_same⟩
    show upd W.B c _ a = none
    rw [upd_ne fun z => h4.2 φ (by rw [z] at h1; exact Option.some.inj (h1.symm.trans h))]
    exact h2
theorem Rep.lam_new {L : LamI} {k : Nat} {f : Addr} {H2 : Hp} (ok : Ok C W H M) (hm : (P, L.qual) ∈ C.tb) (hL : C.lam k = some L) (n : LamNew C.tb P L C.cl H f H2) : ∃ W', Step W H W' H2 ∧ Ok C W' H2 M ∧ Rep C W'.B (.ref f) (.clo k) := by
  obtain ⟨H0, H1, c', dv, hd, en, ht, hf, hc, rfl⟩ := n
  obtain ⟨W0, s0, ok0, hdv⟩ : ∃ W0, Step W H W0 H0 ∧ Ok C W0 H0 M ∧ DvAt W0.B L.one dv := by
    rcases hd with ⟨h1, rfl, rfl⟩ | ⟨t, h1, h2, rfl, rfl⟩
    · refine ⟨W, Step.refl _ _, ok, ?_⟩
      rw [h1]
      exact rfl
    · obtain ⟨ok0, l0⟩ := ok.new (o := TupO t) h2
      refine ⟨_, Step.new ok h2, ok0, ?_⟩
      cases ho : L.one with
      | none => exact absurd ho h1
      | some x => exact ⟨t, rfl, upd_same⟩
  obtain ⟨ok1, s1⟩ := ok0.table hm en ht
  obtain ⟨φ, hφ⟩ := codeO_ext (c := c') (q := L.qual)
  rw [hφ] at hc
  obtain ⟨W2, ok2, s2, hB2⟩ := ok1.knowE hc
  obtain ⟨ok3, l3⟩ := ok2.new (o := LamO f L C.cl c' dv) hf
  exact ⟨_, ((s0.trans s1).trans s2).trans (Step.new ok2 hf), ok3, Rep.clo hL upd_same (l3.1 _ _ (by rw [hB2, hφ])) ((hdv.mono (s1.trans s2).le.1).mono l3.1)⟩
end
def e_lam (k : Nat) : Mx VD := fun _ M => .ok (.d (.clo k)) M
section
variable {X : Cx} {C : Cf} {E : XK} {CX : CXT} {k : Nat}
/-- where lambdas are made -/
structure LamCx (X : Cx) (C : Cf) (P : Addr) (q : Str) : Prop where
  TB : ∃ c, LamX.TabB X.base X.mg c P ∧ X.env.code = .ref c
  mem : (P, q) ∈ C.tb
  one : ∀ p ∈ C.tb, p.1 = P → p.2 = q
  qn : X.env.qual ++ "<lambda>" = q
  cl : X.env.cells = C.cl
theorem x_lam {i : Nat} {P : Addr} {L : LamI} {pos : Pos} (Z : LamCx X C P L.qual) (hL : C.lam i = some L) (hfree : ∀ y ∈ L.scope.names, y.2 = .free → ∃ c, X.env.cells.lookup y.1 = some c) (hdef : LamDef L X.env) : PX X C E (.Lambda L.params L.body L.scope pos) (e_lam i) := by
  obtain ⟨c, TB, hcode⟩ := Z.TB
  refine ⟨_, pe_lam TB hcode Z.mem Z.one Z.qn hfree hdef, fun W σ H ρ M Q ok sl p => ⟨ok.tab, fun f H2 n => ?_⟩⟩
  rw [Z.cl] at n
  obtain ⟨W', s, ok', r⟩ := Rep.lam_new ok Z.mem hL n
  exact p W' H2 _ s ok' r
end
end G

/-! what a lambda made is called, some frames further on -/
namespace G
open PySem PySem.Spec PyProof.Rows L2
/-- the names of a lambda in a def -/
structure LamS2 (N : List Str) (sc : Scope) (L : LamI) : Prop where
  kind : L.scope.kind = .function
  co : L.scope.isCoroutine = false
  gen : L.scope.isGenerator = false
  nocell : ∀ y ∈ L.scope.names, y.2 ≠ .cell
  loc : ∀ y ∈ L.scope.names, y.2 = .local → y.1 ∉ N
  one : ∀ x, L.one = some x → L.scope.names.lookup x = some .local
  free : ∀ y ∈ L.scope.names, y.2 = .free → sc.names.lookup y.1 = some .cell ∨ sc.names.lookup y.1 = some .free
/-- what a lambda sees of the def that made it, while that def waits: its cells lie in the ground B -/
structure Susp (X : Cx) (σ : L2.St) (B : Heap) : Prop where
  len : σ.length = X.N.length
  two : ∀ x y c, X.env.cells.lookup x = some c → X.env.cells.lookup y = some c → x = y
  has : ∀ x, X.env.scope.names.lookup x = some .cell ∨ X.env.scope.names.lookup x = some .free → ∃ c, X.env.cells.lookup x = some c
  cel : ∀ x c, X.env.cells.lookup x = some c → ∃ v, B.IsCell c v
  val : ∀ (i : Nat) (x : Str) (v : V), X.N[i]? = some x → σ[i]? = some (some v) → X.env.scope.names.lookup x = some .cell ∨ X.env.scope.names.lookup x = some .free → ∃ u c, L2.RelV v u ∧ X.env.cells.lookup x = some c ∧ B.IsCell c (some u)
/-- the context of the lambda's body, on the ground B -/
abbrev lamX (X : Cx) (B : Heap) (A : Around) (outer : List PySem.Env) (s : Shared) (H : Hp) (E : XK) (L : LamI) (f c' : Addr) : Cx := LamX.lamCx { X with base := B } A outer s H E L.scope f c'
theorem isCell_keep {h h' : Heap} {c : Addr} {v : Option Value} (k : ∀ b o, h.get? b = some o → h'.get? b = some o) (z : h.IsCell c v) : h'.IsCell c v := by
  obtain ⟨o, a, b⟩ := z
  exact ⟨o, k _ _ a, b⟩
section
variable {X : Cx} {σ : L2.St} {B : Heap} {L : LamI}
theorem clo_cell (Z : Susp X σ B) (S : LamS2 X.N X.env.scope L) {y : Str} {c : Addr} (e : (cloFrom X.env.cells L.scope.names []).lookup y = some c) : X.env.cells.lookup y = some c := by
  rcases cloFrom_mem (PySem.mem_of_lookup e) with hm | ⟨hm, hc⟩
  · simp at hm
  · obtain ⟨d, hd⟩ := Z.has y (S.free (y, .free) hm rfl)
    have hc : c = (X.env.cells.lookup y).getD 0 := hc
    rw [hc, hd]
    rfl
theorem clo_has {y : Str} (e : L.scope.names.lookup y = some .free) : ∃ c, (cloFrom X.env.cells L.scope.names []).lookup y = some c :=
  mem_lookup (cloFrom_has (cells := X.env.cells) (acc := []) (PySem.mem_of_lookup e))
theorem lam_inv {A : Around} {outer : List PySem.Env} {s1 : Shared} {HZ : Hp} {E : XK} {f c' : Addr} {h2 : Heap} {tk : Nat} {m2 : Str → Option Value} (Z : Susp X σ B) (S : LamS2 X.N X.env.scope L) (e0 : Env0 X.prog X.w X.K X.mg B A outer s1 HZ) (cold : A.handled = none)
    (ns : h2.Ns s1.heap.objs.size m2) (up : ∀ b o, s1.heap.get? b = some o → h2.get? b = some o) : Inv (lamX X B A outer s1 HZ E L f c') [] σ HZ { s1 with heap := h2, toks := tk } := by
  have none_in : ∀ b : Addr, b ∉ ([] : List Addr) := fun b => by simp
  have upB : ∀ b o, B.get? b = some o → h2.get? b = some o := fun b o e => up b o (e0.bs b o e).1
  have offB : ∀ {c : Addr} {v : Option Value}, B.IsCell c v → HZ c = none := fun {c v} ⟨o, e, _⟩ => (e0.bs c o e).2
  constructor
  case ok =>
    constructor
    case mod => exact e0.mod
    case kind => exact S.kind
    case glob => rfl
    case blt => rfl
    case above => exact Nat.le_refl _
    case inj => exact fun x y c a b => Z.two x y c (clo_cell Z S a) (clo_cell Z S b)
    case has =>
      intro y hy
      have hy : L.scope.names.lookup y = some .cell ∨ L.scope.names.lookup y = some .free := hy
      rcases hy with hy | hy
      · exact (S.nocell (y, .cell) (PySem.mem_of_lookup hy) rfl).elim
      · exact clo_has hy
    case cab => exact fun y c z => absurd (show false = true from z) (by decide)
    case hd => exact fun _ => cold
    case frames => exact Around.frames_deeper e0.frames
    case stk => exact .inr ⟨rfl, rfl⟩
    case exf => exact fun b hb => (none_in b hb).elim
    case bs => exact e0.bs
    case bsz => exact e0.bsz
    case noex => exact fun b _ _ => none_in b
    case exfs => exact fun b hb => (none_in b hb).elim
    case funs => exact e0.funs
    case frf => exact e0.frf
  case os => rfl
  case bare => exact e0.bare
  case base => exact Un.kept up
  case loc =>
    refine ⟨m2, ns, fun i y v hi hv hs => ?_⟩
    have hs : Vis L.scope y := hs
    have hi : X.N[i]? = some y := hi
    rcases hs with hs | hs | hs
    · exact (S.loc (y, .local) (PySem.mem_of_lookup hs) rfl (List.mem_of_getElem? hi)).elim
    · exact (S.nocell (y, .cell) (PySem.mem_of_lookup hs) rfl).elim
    · obtain ⟨u, c, ru, hc, hu⟩ := Z.val i y v hi hv (S.free (y, .free) (PySem.mem_of_lookup hs) rfl)
      obtain ⟨d, hd⟩ := clo_has (X := X) hs
      have hdc := clo_cell Z S hd
      rw [hc] at hdc
      cases hdc
      exact ⟨u, ru, .inr ⟨.inr hs, _, hd, isCell_keep upB hu⟩⟩
  case cell =>
    intro y c e
    obtain ⟨v, hv⟩ := Z.cel y c (clo_cell Z S e)
    exact ⟨v, isCell_keep upB hv⟩
  case free => exact e0.hok.fresh (Nat.le_refl _)
  case freeC =>
    intro y c e
    obtain ⟨v, hv⟩ := Z.cel y c (clo_cell Z S e)
    exact offB hv
  case pin => exact fun p hp => absurd (show p ∈ ([] : List (Addr × Obj)) ++ [] from hp) (by simp)
  case hok => exact e0.hok.kept up
  case len => exact Z.len
end
/-- how a lambda's parameters are bound -/
def LamBind (L : LamI) : Prop := match L.one with
  | none => ∀ cl pm cdv ct, bindArgs (lamFn L cl .none pm cdv ct) ⟨[], []⟩ = pure []
  | some x => ∀ cl (t : Addr) pm cdv ct (v : Value), ∃ kk, bindArgs (lamFn L cl (.ref t) pm cdv ct) ⟨[], []⟩ = seqItems? (.ref t) >>= kk ∧ kk (some #[v]) = pure [(x, v)]
theorem ext_at {P : Program} {w : World} {H : Hp} {h : Heap} {b : Addr} {φ : Heap → Prop} (hok : HOk P w H h) (e : H b = some (.ext φ)) : φ h := (show ObjOk P w H h b (.ext φ) from hok b _ e).1
section
variable {X : Cx} {σ : L2.St} {B : Heap} {L : LamI} {HZ : Hp} {s1 : Shared}
/-- a lambda's body at work -/
theorem clo_run {f c' : Addr} {dv : Value} {k : Nat} {A : Around} {outer : List PySem.Env} {E : XK} {tb : TE} {Q : VK} (Z : Susp X σ B) (S : LamS2 X.N X.env.scope L) (hq : X.env.qual ++ "<lambda>" = L.qual) (hB : LamBind L) (e0 : Env0 X.prog X.w X.K X.mg B A outer s1 HZ) (hr : Room (k + 1) A)
    (a1 : HZ f = some (LamO f L X.env.cells c' dv)) (a2 : HZ c' = some (LamX.CodeO c' L.qual)) (a3 : DvAt HZ L.one dv)
    (hb : ∀ (A : Around) (outer : List PySem.Env) (s : Shared) (H : Hp), Room k (A.deeper (LamX.lamEnv X L.scope s.heap.objs.size f c')) → PE (lamX X B A outer s H E L f c') L.body tb) (ht : tb σ HZ Q) :
    codeAny (model X.prog X.w) A (.call (.ref f) ⟨[], []⟩) (CR (L2.CX X.prog X.w) outer X.prog X.w HZ s1 Q E) s1 := by
  obtain ⟨pm, ct, fnAt⟩ := ext_at e0.hok a1
  obtain ⟨oc, vs, t, co1, co2, co3⟩ := ext_at e0.hok a2
  have roomy : s1.heap.NoLimit := e0.mod.nolimit.keeps fun b o e => (e0.bs b o e).1
  have enter : ∀ bs : List (Str × Value), (∀ x ∈ bs, L.scope.names.lookup x.1 = some .local) → wpAny (model X.prog X.w) A.in1 (newFunctionEnv L.scope mainGlobals (cloFrom X.env.cells L.scope.names []) bs (L.qual ++ ".<locals>.") (some f) (.ref c') none builtinsNs)
      (fun env s₂ => s₂.heap.NoLimit ∧ codeAny (model X.prog X.w) A (.expr L.body env) (CR (L2.CX X.prog X.w) outer X.prog X.w HZ s1 Q E) s₂) (fun e s' => CR (L2.CX X.prog X.w) outer X.prog X.w HZ s1 Q E (.error e) s') s1 := fun bs hl => by
    refine wpAny_newFunctionEnv S.nocell hl (fun h2 ns sb => ⟨roomy.fresh _ sb, ?_⟩) S.kind
    have J := lam_inv (E := E) (f := f) (c' := c') (tk := s1.toks + bs.length) Z S e0 hr.hd ns fun b o e => sb.extBut b o (Nat.ne_of_lt (Heap.lt_size e)) (Heap.get?_push_of_some _ e)
    have run := (hb A outer s1 HZ (hr.deeper _)).run [] _ _ HZ Q J ht
    rw [← hq]
    refine PySem.W.kla_codeExpr (wpAny_mono run (fun v s' ⟨x, H', J', rx, q⟩ => ?_) fun _ _ z => z)
    exact ⟨x, H', J'.os, J'.bare, J'.base, J'.hok, rx, q⟩
  refine PySem.W.kla_callFunE hr.depth fnAt rfl S.co S.gen rfl ⟨c', oc, vs, t, rfl, co1, co2, co3⟩ ?_
  unfold LamBind at hB
  cases ho : L.one with
  | none =>
    rw [ho] at hB a3
    obtain rfl : dv = .none := a3
    rw [hB]
    exact wpAny_pure (enter [] fun x hx => by simp at hx)
  | some x =>
    rw [ho] at hB a3
    obtain ⟨tt, rfl, htt⟩ := (show ∃ t : Addr, dv = .ref t ∧ HZ t = some (TupO t) from a3)
    obtain ⟨v, htv⟩ := ext_at e0.hok htt
    obtain ⟨kk, e1, e2⟩ := hB (cloFrom X.env.cells L.scope.names []) tt pm (.ref c') ct v
    rw [e1]
    refine wpAny_bind (wpAny_seqItems htv rfl ?_)
    rw [e2]
    exact wpAny_pure (enter [(x, v)] fun y hy => by
      simp at hy
      subst hy
      exact S.one x ho)
end
end G

/-! a later beginning -/
namespace G
open PySem PySem.Spec PyProof.Rows L2
/-- C, from a world on in which h is known -/
abbrev Cf.at (C : Cf) (h : Hp) : Cf := { C with low := h }
section
variable {C : Cf} {h : Hp}
mutual
theorem Rep.at {B : Hp} : ∀ {v : V} {d : D}, Rep C B v d → Rep (C.at h) B v d
  | _, _, .non => .non
  | _, _, .bl b => .bl b
  | _, _, .int i => .int i
  | _, _, .str s => .str s
  | _, _, .lst a r => .lst a (RepA.at r)
  | _, _, .tup a r => .tup a (RepA.at r)
  | _, _, .obj a b r => .obj a b (RepA.at r)
  | _, _, .scr a => .scr a
  | _, _, .clo a b c d => .clo a b c d
  | _, _, .exn a b c r => .exn a b c (RepA.at r)
  | _, _, .pv => .pv
theorem RepA.at {B : Hp} : ∀ {vs : List V} {ds : List D}, RepA C B vs ds → RepA (C.at h) B vs ds
  | _, _, .nil => .nil
  | _, _, .cons a r => .cons (Rep.at a) (RepA.at r)
end
mutual
theorem Rep.off {B : Hp} : ∀ {v : V} {d : D}, Rep (C.at h) B v d → Rep C B v d
  | _, _, .non => .non
  | _, _, .bl b => .bl b
  | _, _, .int i => .int i
  | _, _, .str s => .str s
  | _, _, .lst a r => .lst a (RepA.off r)
  | _, _, .tup a r => .tup a (RepA.off r)
  | _, _, .obj a b r => .obj a b (RepA.off r)
  | _, _, .scr a => .scr a
  | _, _, .clo a b c d => .clo a b c d
  | _, _, .exn a b c r => .exn a b c (RepA.off r)
  | _, _, .pv => .pv
theorem RepA.off {B : Hp} : ∀ {vs : List V} {ds : List D}, RepA (C.at h) B vs ds → RepA C B vs ds
  | _, _, .nil => .nil
  | _, _, .cons a r => .cons (Rep.off a) (RepA.off r)
end
variable {W : Wd} {H : Hp} {M : Mem}
theorem RepV.at {x : V} {v : VD} (r : RepV C W x v) : RepV (C.at h) W x v := by
  cases v with
  | d y => exact Rep.at (show Rep C W.B x y from r)
  | adr i => exact r
theorem RepV.off {x : V} {v : VD} (r : RepV (C.at h) W x v) : RepV C W x v := by
  cases v with
  | d y => exact Rep.off (show Rep (C.at h) W.B x y from r)
  | adr i => exact r
theorem RepVA.at : ∀ {xs : List V} {vs : List VD}, RepVA C W xs vs → RepVA (C.at h) W xs vs
  | _, _, .nil => .nil
  | _, _, .cons a r => .cons (RepV.at a) (RepVA.at r)
theorem RepVA.off : ∀ {xs : List V} {vs : List VD}, RepVA (C.at h) W xs vs → RepVA C W xs vs
  | _, _, .nil => .nil
  | _, _, .cons a r => .cons (RepV.off a) (RepVA.off r)
theorem MoOk.at {a : Addr} {m : MO} (r : MoOk C W H a m) : MoOk (C.at h) W H a m := by
  cases m with
  | dead => exact r
  | lst ds =>
    obtain ⟨q1, vs, q2, q3⟩ := r
    exact ⟨q1, vs, q2, RepA.at q3⟩
  | ins c fs =>
    obtain ⟨q1, dx, vs, q2, q3, q4⟩ := r
    exact ⟨q1, dx, vs, q2, q3, RepVA.at q4⟩
  | lsv ds =>
    obtain ⟨q1, vs, q2, q3⟩ := r
    exact ⟨q1, vs, q2, RepVA.at q3⟩
theorem MoOk.off {a : Addr} {m : MO} (r : MoOk (C.at h) W H a m) : MoOk C W H a m := by
  cases m with
  | dead => exact r
  | lst ds =>
    obtain ⟨q1, vs, q2, q3⟩ := r
    exact ⟨q1, vs, q2, RepA.off q3⟩
  | ins c fs =>
    obtain ⟨q1, dx, vs, q2, q3, q4⟩ := r
    exact ⟨q1, dx, vs, q2, q3, RepVA.off q4⟩
  | lsv ds =>
    obtain ⟨q1, vs, q2, q3⟩ := r
    exact ⟨q1, vs, q2, RepVA.off q3⟩
theorem Ok.at (ok : Ok C W H M) (s : Same h W.B) : Ok (C.at h) W H M := ⟨ok.sub, ok.nd, ok.len, fun i a m e1 e2 => (ok.mo i a m e1 e2).at, ok.tab, ok.tbB, s⟩
theorem Ok.off (ok : Ok (C.at h) W H M) (s : Same C.low W.B) : Ok C W H M := ⟨ok.sub, ok.nd, ok.len, fun i a m e1 e2 => (ok.mo i a m e1 e2).off, ok.tab, ok.tbB, s⟩
theorem Slots.at {σ : L2.St} {ρ : Env} (s : Slots C W σ ρ) : Slots (C.at h) W σ ρ := ⟨s.1, fun i d e => let ⟨v, a, b⟩ := s.2 i d e; ⟨v, a, RepV.at b⟩⟩
theorem Slots.off {σ : L2.St} {ρ : Env} (s : Slots (C.at h) W σ ρ) : Slots C W σ ρ := ⟨s.1, fun i d e => let ⟨v, a, b⟩ := s.2 i d e; ⟨v, a, RepV.off b⟩⟩
theorem post.at {E : XK} {Q : VK} {r : Res VD} (l : Same C.low W.B) (p : post C (relV C) E Q W H r) : post (C.at h) (relV (C.at h)) E Q W H r := by
  cases r with
  | ok v M1 => exact fun W1 H1 x s ok rx => p W1 H1 x s (ok.off (l.trans s.le.1)) (RepV.off rx)
  | exc c fs M1 => exact fun W1 H1 dx s ok ea => p W1 H1 dx s (ok.off (l.trans s.le.1)) (Rep.off ea)
  | fail => exact p
theorem post.off {E : XK} {Q : VK} {r : Res VD} (l : Same h W.B) (p : post (C.at h) (relV (C.at h)) E Q W H r) : post C (relV C) E Q W H r := by
  cases r with
  | ok v M1 => exact fun W1 H1 x s ok rx => p W1 H1 x s (ok.at (l.trans s.le.1)) (RepV.at rx)
  | exc c fs M1 => exact fun W1 H1 dx s ok ea => p W1 H1 dx s (ok.at (l.trans s.le.1)) (Rep.at ea)
  | fail => exact p
end
/-! an exception at hand: it is pinned, its dict is known from the beginning -/
/-- the exception at a, of the class c, its dict at dx -/
structure Held (X : Cx) (C : Cf) (a dx : Addr) (c : Nat) (fs : List D) : Prop where
  pin : ∃ oe : Obj, (a, oe) ∈ X.pn ∧ oe.cls = .ref (C.ca c) ∧ oe.dict = some dx ∧ ∃ vs, oe.data = .fields vs
  T : XfC X.K (C.ca c)
  no : ∀ n ∈ C.nm c, PySem.W.findIn X.K (.ref (C.ca c)) n = some none
  rep : Rep C C.low (.ref dx) (.exn c fs)
theorem zip_look {n : Str} {d : D} : ∀ {ns : List Str} {fs : List D}, (ns.zip fs).lookup n = some d → ∃ j : Nat, ns[j]? = some n ∧ fs[j]? = some d
  | [], _, h => by simp at h
  | _ :: _, [], h => by simp at h
  | m :: ns, f :: fs, h => by
    rw [List.zip_cons_cons, List.lookup] at h
    split at h
    · rename_i e
      rw [beq_iff_eq] at e
      cases h
      exact ⟨0, by simp [e], rfl⟩
    · obtain ⟨j, a, b⟩ := zip_look h
      exact ⟨j + 1, by simpa using a, by simpa using b⟩
section
variable {X : Cx} {C : Cf} {E : XK} {a dx : Addr} {c : Nat} {fs : List D}
theorem pe_held {e : Expr} {te : TE} {pos : Pos} {n : Str} (Z : Held X C a dx c fs) (hn : n ∈ C.nm c) (he : PE X e te) (hb : attributeBase e n X.env (eval e X.env) = eval e X.env := by rfl) :
    PE X (.Attribute e n pos) (fun σ H Q => te σ H fun x H1 => x = .ref a ∧ ∃ fl v, H1 dx = some (.xd fl) ∧ fl.lookup n = some v ∧ Q v H1) := by
  obtain ⟨oe, hp, hc, hd, vs, hf⟩ := Z.pin
  refine ⟨fun pins s σ H Q I h => attr_of hb (thn (he.run pins s σ H _ I h) fun u s1 ⟨x, H1, I1, rx, ex, fl, v, ea, el, q⟩ => ?_)⟩
  subst ex
  obtain rfl : u = Value.ref a := rx
  obtain ⟨mA, ns, rel⟩ := (show ObjOk X.prog X.w H1 s1.heap dx (.xd fl) from I1.hok dx _ ea)
  obtain ⟨od, ho, look⟩ := lookIn_ns ns
  obtain ⟨u, hu, ru⟩ := RelO.some_of (v := v) (o := mA n) (by rw [← el]; exact rel n)
  have at_ : PySem.W.InstAt s1.heap a oe (C.ca c) (some od) := ⟨(I1.pin (a, oe) (List.mem_append_left _ hp)).1, hc, by unfold PySem.W.notCls; rw [hf] <;> rfl, by rw [hd]; exact ho⟩
  exact HandSPX.exc_get I1.kIn at_ Z.T.ga Z.T.gg Z.T.exC (PySem.W.findObj_own Z.T.hdC (Z.no n hn) rfl (by rw [look, hu])) (handed_of ru) ⟨v, H1, I1.tok _, ru, q⟩
def xfV (a : Addr) (o : Option D) : VD → Mem → Res VD
  | .d (.pv b), M => if b = a then (match o with | some d => .ok (.d d) M | none => .fail) else .fail
  | _, _ => .fail
/-- e.n, where e is the exception at a -/
def e_xf (a : Addr) (ns : List Str) (fs : List D) (n : Str) (m : Mx VD) : Mx VD := fun ρ M => (m ρ M).bind (xfV a ((ns.zip fs).lookup n))
theorem x_never {e : Expr} {te : TE} (h : PE X e te) : PX X C E e (fun _ _ => .fail) := ⟨_, h, fun W σ H ρ M Q ok sl p => p.elim⟩
theorem x_xf {e : Expr} {m : Mx VD} {pos : Pos} {n : Str} (Z : Held X C a dx c fs) (hn : n ∈ C.nm c) (h : PX X C E e m) (hb : attributeBase e n X.env (eval e X.env) = eval e X.env := by rfl) : PX X C E (.Attribute e n pos) (e_xf a (C.nm c) fs n m) := by
  obtain ⟨te, pe, se⟩ := h
  refine ⟨_, pe_held Z hn pe hb, fun W σ H ρ M Q ok sl p => ?_⟩
  refine se W σ H ρ M _ ok sl (post_bind p fun v M1 W1 H1 x l1 ok1 rv p1 => ?_)
  unfold xfV at p1
  split at p1
  · rename_i b
    split at p1
    · rename_i hb
      subst hb
      cases (show Rep C W1.B x (.pv b) from rv)
      split at p1
      · rename_i d e
        obtain ⟨j, j1, j2⟩ := zip_look e
        cases Rep.mono ok1.low Z.rep with
        | exn r1 r2 r3 r4 =>
          obtain ⟨v, v1, v2⟩ := r4.get j2
          exact ⟨rfl, _, v, ok1.sub _ _ r1, r3 j n v j1 v1, p1 W1 H1 v (Step.refl _ _) ok1 v2⟩
      · exact p1.elim
    · exact p1.elim
  · exact p1.elim
end
end G

/-! try .. except (A, B, C) as n; a def called while an exception is at hand -/
namespace G
open PySem PySem.Spec PyProof.Rows L2
section
variable {P : Program} {w : World} {K : PySem.W.Frag} {mg : Str → Option Value} {base : Heap}
/-- a def is called while the exception p is at hand -/
theorem run_pin {f : Addr} {name qual : Str} {params : Arguments} {body : List Stmt} {scope : Scope} {dV kV doc pm cdv ct oc : Value} {an od : Option Addr} {osl : Array (Option Value)} {N ps : List Str} (lk : K.lookup f = some ⟨oc, od, .func (PySem.W.fnOf name qual params body scope dV kV doc pm an cdv ct), osl⟩)
    (hcd : PySem.W.codeIn K cdv qual = true) (S : FnScope N ps scope) {A : Around} {outer : List PySem.Env} {s : Shared} {H : Hp} {us : List Value} {vs : List V} {Q : VK} {p : Addr × Obj} (deep : A.depth < recursionLimit) (pin : L2H.PinOk outer H s p) (e0 : Env0 P w K mg base A outer s H)
    (hb : BindsTo s (PySem.W.fnOf name qual params body scope dV kV doc pm an cdv ct) ⟨us, []⟩ (ps.zip us)) (r : Vals vs us) (hl : vs.length = ps.length) {t : L2.TS} (ht : PSs (L2H.cxH CX0 P w K mg base N qual scope f cdv A outer s H E0 p) body t) (q : t { nx := fun _ H' => Q .non H', rt := Q } (L2.start N vs) H) :
    codeAny (model P w) A (.call (.ref f) ⟨us, []⟩) (CR CX0 outer P w H s Q E0) s := by
  have up : ∀ b o, base.get? b = some o → s.heap.get? b = some o := fun b o e => (e0.bs b o e).1
  have inK : K.In s.heap := e0.mod.kin.keeps up
  refine codeAny_call_function deep (inK _ _ lk) rfl S.co S.gen rfl (PySem.W.codeRec_of inK hcd) (hb _ _ _ _ (wpAny_newFunctionEnv_cells S.kind (fun y hy => ?_) fun env he s1 x => ?_))
  · rcases S.par y.1 (List.of_mem_zip (show (y.1, y.2) ∈ ps.zip us from hy)).1 with z | z
    · exact .inl z
    · exact .inr ⟨z, PySem.W.cellsFrom_some _ _ _ (.inl z)⟩
  · subst he
    have J := L2H.inv_startH (CX := CX0) (E := E0) (f := f) (cd := cdv) S pin e0 hl r x
    refine ⟨(e0.mod.nolimit.keeps up).keeps x.toInCall.keep, codeAny_func (wpAny_mono (ht.run [] s1 _ H _ J q) (fun fl s2 hs => ?_) fun _ _ z => z)⟩
    cases fl with
    | ret u =>
      obtain ⟨v, σ2, H2, J2, rv, q2⟩ := hs
      exact ⟨v, H2, J2.os, J2.bare, J2.base, J2.hok, rv, q2⟩
    | next =>
      obtain ⟨σ2, H2, J2, q2⟩ := hs
      exact ⟨.non, H2, J2.os, J2.bare, J2.base, J2.hok, rfl, q2⟩
    | brk => exact (hs.elim fun _ z => z.elim fun _ z => z.2).elim
    | cont => exact (hs.elim fun _ z => z.elim fun _ z => z.2).elim
end
theorem fly_keep {B h h' : Heap} {l : List PySem.Env} {a : Addr} {Z : Obj → Prop} (x : HandSPX.FlyingZ B l a Z h) (k : ∀ b o, h.get? b = some o → h'.get? b = some o) : HandSPX.FlyingZ B l a Z h' := by
  obtain ⟨x1, x2, x3, oe, vs, T, oT, ts, y1, y2, y3, y4, y5, y6, y7, y8⟩ := x
  exact ⟨fun b o e => k b o (x1 b o e), x2, x3.of_keeps fun b o e _ => ⟨o, k b o e, rfl⟩, oe, vs, T, oT, ts, k _ _ y1, y2, y3, y4, y5, y6, k _ _ y7, y8⟩
/-- what the clause wishes of an exception of the body: it always fits -/
def wT3 (K : PySem.W.Frag) (cs : List Value) (i : Nat) (ts : Addr → Value → Option Addr → L2.TS) (D : Ends) : WX := fun cls d σ H =>
  PySem.W.exmAny K cls cs = some true ∧ ∀ a, H a = none → ts a cls d { nx := fun σ' H' => D.nx (σ'.set i none) H', rt := D.rt, bk := fun σ' H' => D.bk (σ'.set i none) H', ct := fun σ' H' => D.ct (σ'.set i none) H' } (σ.set i (some (.ref a))) H
section
variable {X : Cx} {x1 x2 x3 n : Str} {c1 c2 c3 : Value} {i kk : Nat} {body suite : List Stmt} {b₀ : Stmt} {p1 p2 p3 np pos pos' : Pos} {tb : WX → L2.TS} {ts : Addr → Value → Option Addr → L2.TS}
open PySem.W in
theorem ps_try3 (hs : X.stack = X.env :: X.outer) (hf : X.env.frame = some X.env.locals) (hN : X.N.Nodup) (hi : X.N[i]? = some n) (hln : X.env.kindOf n = some .local) (n1 : Names X x1 c1) (n2 : Names X x2 c2) (n3 : Names X x3 c3)
    (hb : ∀ (W : WX) (pn : List (Addr × Obj)) (xe : Value → Shared → Prop), Takes (X.tr pn xe) W → PassesOwn (model X.prog X.w) X.A X.env xe → PSs (X.tr pn xe) body (tb W))
    (hsu : ∀ (a : Addr) (oe : Obj) (cls : Value) (d : Option Addr) (pn : List (Addr × Obj)), Zc cls d oe → (∃ vs, oe.data = .fields vs) → PSs (X.suite a ((a, oe) :: pn)) (b₀ :: suite) (ts a cls d)) :
    PS X (.Try body [.ExceptHandler (some (.Tuple [.Name x1 p1, .Name x2 p2, .Name x3 p3] kk np)) (some n) (b₀ :: suite) pos'] [] [] pos) (fun D σ H => tb (wT3 X.K [c1, c2, c3] i ts D) D σ H) := by
  refine ⟨fun pins s σ H D I h => wpAny_Try_except (wpAny_mono ((hb (wT3 X.K [c1, c2, c3] i ts D) (X.pn ++ pins) _ (fun u s' air => ?_) PassesOwn.looking).run [] s σ H D (I.toTry _) h) (fun fl s1 sp => ?_) fun e s1 he => he)⟩
  · obtain ⟨a, Bh, sI, pins', σ', H', cls, d, rfl, J0, nb, up, sky, na, os, bare, fits, cont⟩ := air
    have J : Inv X pins σ' H' sI := J0.ofTry I.ok
    rw [hs] at sky
    refine Sky.land Zc.steady (by rw [I.ok.frames, hs]) hf sky fun g fly upg => ?_
    have Jg : Inv X pins σ' H' { s' with heap := g } := J.landed nb fly.1 (up.trans upg) os bare
    have apart : ∀ {h : Heap} {o : Obj} {vs : Array Value}, h.FunFrames Bh (X.env :: X.outer) → h.get? a = some o → o.data = .fields vs → a ≠ X.env.locals ∧ a ∉ X.fs := fun {h o vs} ff e dd => by
      have nofr : a ∉ frs (X.env :: X.outer) := fun hm => by
        obtain ⟨_, o', e', nf⟩ := ff.mem hm
        rw [e] at e'
        cases e'
        exact nf _ dd
      refine ⟨fun z => nofr ?_, fun hm => nofr ?_⟩
      · exact List.mem_filterMap.mpr ⟨X.env, List.mem_cons_self, by rw [hf, z]⟩
      · obtain ⟨e1, he1, z⟩ := List.mem_filterMap.mp hm
        exact List.mem_filterMap.mpr ⟨e1, List.mem_cons_of_mem _ he1, z⟩
    obtain ⟨oe, ve, ge, ze, de⟩ := fly.there
    obtain ⟨notL, notF⟩ := apart fly.2.2.1 ge de
    have Sg := Jg.suite ge de na notL notF
    have name : ∀ {x : Str} {c : Value} {p : Pos}, Names X x c → ∀ {Q : Value → Shared → Prop} {E : Value → Shared → Prop}, Q c { s' with heap := g } → wpAny (model X.prog X.w) (X.A.mark (some (.ref a))) (eval (.Name x p) X.env) Q E { s' with heap := g } := fun {x c p} nm {Q E} q => by
      obtain ⟨hg, hdb, hm | ⟨hm, hv, hnn⟩⟩ := nm
      · exact ld_glob (X := X.suite a ((a, oe) :: (X.pn ++ pins))) Sg hg hm q hdb
      · exact ld_blt (X := X.suite a ((a, oe) :: (X.pn ++ pins))) Sg hg hm hv q hnn hdb
    refine wpAny_handleBy_cons (codeAny_handlers_test ?_) (by intro q; cases q)
    refine wpAny_Tuple (wpAny_items_cons (name n1 (wpAny_items_cons (name n2 (wpAny_items_cons (name n3 (wpAny_items_nil ⟨by size_fits, ?_⟩)))))))
    have kt : ∀ b o, g.get? b = some o → (g.push { cls := .type "tuple", data := .seq [c1, c2, c3].toArray }).get? b = some o := fun b o e => Heap.get?_push_of_some _ e
    have ty : Looks (model X.prog X.w) (g.push { cls := .type "tuple", data := .seq [c1, c2, c3].toArray }) (typeOf (.ref a)) cls := fun A Q E s k q => wpAny_typeOf_ref (k _ _ (kt _ _ ge)) (by rw [ze.1]; exact q)
    refine (exm_tup3 (Jg.kIn.keeps kt) ty (Heap.get?_push_size g rfl) fits).here ?_
    refine codeAny_handlers_suite_as (HandSPX.lands_againZ (fly_keep fly kt) fun g2 fly2 up2 => ?_)
    have J2 : Inv X pins σ' H' { s' with heap := g2 } := J.landed nb fly2.1 (((up.trans upg).trans (Heap.UpToSlots.of_keeps kt)).trans up2) os bare
    obtain ⟨oe2, ve2, ge2, ze2, de2⟩ := fly2.there
    have S2 := J2.suite ge2 de2 na notL notF
    refine store_ok (X := X.suite a ((a, oe2) :: (X.pn ++ pins))) (v := .ref a) S2 hN hi (.inl hln) rfl (fun s5 S5 => ?_) (.inr hln)
    refine wpAny_mono ((hsu a oe2 cls d (X.pn ++ pins) ze2 ⟨_, de2⟩).run [] s5 _ H' _ S5 (cont a na)) (fun fl s6 sp => ?_) fun _ _ z => False.elim z
    cases fl with
    | next =>
      obtain ⟨σ6, H6, S6, q6⟩ := sp
      exact gone_ok (S6.unsuite I.ok) hN hi hln fun s7 J7 => ⟨_, _, J7, q6⟩
    | brk =>
      obtain ⟨σ6, H6, S6, q6⟩ := sp
      exact gone_ok (S6.unsuite I.ok) hN hi hln fun s7 J7 => ⟨_, _, J7, q6⟩
    | cont =>
      obtain ⟨σ6, H6, S6, q6⟩ := sp
      exact gone_ok (S6.unsuite I.ok) hN hi hln fun s7 J7 => ⟨_, _, J7, q6⟩
    | ret u =>
      obtain ⟨v6, σ6, H6, S6, r6, q6⟩ := sp
      exact gone_ok (S6.unsuite I.ok) hN hi hln fun s7 J7 => ⟨_, _, _, J7, r6, q6⟩
  · cases fl with
    | next =>
      obtain ⟨σ1, H1, J1, q⟩ := sp
      exact wpAny_execs_nil ⟨σ1, H1, J1.ofTry I.ok, q⟩
    | brk =>
      obtain ⟨σ1, H1, J1, q⟩ := sp
      exact ⟨σ1, H1, J1.ofTry I.ok, q⟩
    | cont =>
      obtain ⟨σ1, H1, J1, q⟩ := sp
      exact ⟨σ1, H1, J1.ofTry I.ok, q⟩
    | ret u =>
      obtain ⟨v, σ1, H1, J1, r, q⟩ := sp
      exact ⟨v, σ1, H1, J1.ofTry I.ok, r, q⟩
end
end G

/-! try as a mirror; a closure called; a def called while an exception is at hand -/
namespace G
open PySem PySem.Spec PyProof.Rows L2
/-- the exception classes: caught by the clause, their fields read -/
structure Excs (K : PySem.W.Frag) (C : Cf) (cs : List Value) (isE : Nat → Bool) : Prop where
  fits : ∀ c, isE c = true → PySem.W.exmAny K (.ref (C.ca c)) cs = some true
  T : ∀ c, isE c = true → XfC K (C.ca c)
  no : ∀ c, isE c = true → ∀ n ∈ C.nm c, PySem.W.findIn K (.ref (C.ca c)) n = some none
/-- try: return e / except .. as n: return h -/
def s_try (isE : Nat → Bool) (me : Mx VD) (mh : Nat → List D → Mem → Res VD) : Sx := fun ρ M => match me ρ M with
  | .ok v M1 => .ret v M1
  | .exc c fs M1 => if isE c then (mh c fs M1).out fun v M2 => .ret v M2 else .fail
  | .fail => .fail
section
variable {X : Cx} {C : Cf} {CX : CXT} {k : Nat}
theorem xs_try {x1 x2 x3 n : Str} {c1 c2 c3 : Value} {i kk : Nat} {eb eh : Expr} {p1 p2 p3 p4 p5 np pos pos' : Pos} {isE : Nat → Bool} {me : Mx VD} {mh : Nat → List D → Mem → Res VD} {mx : Addr → Nat → List D → Mx VD}
    (hs : X.stack = X.env :: X.outer) (hf : X.env.frame = some X.env.locals) (hN : X.N.Nodup) (hi : X.N[i]? = some n) (hln : X.env.kindOf n = some .local) (n1 : Names X x1 c1) (n2 : Names X x2 c2) (n3 : Names X x3 c3) (Z : Excs X.K C [c1, c2, c3] isE)
    (hb : ∀ (W : WX) (pn : List (Addr × Obj)) (xe : Value → Shared → Prop) (E1 : XK), Takes (X.tr pn xe) W → (∀ cls d σ H, E1 cls d H → W cls d σ H) → PX (X.tr pn xe) C E1 eb me)
    (hh : ∀ (a dx : Addr) (oe : Obj) (pn : List (Addr × Obj)) (c : Nat) (fs : List D) (h : Hp), isE c = true → Held (X.suite a ((a, oe) :: pn)) (C.at h) a dx c fs → PX (X.suite a ((a, oe) :: pn)) (C.at h) E0 eh (mx a c fs))
    (pure_ : ∀ a c fs M, mx a c fs ((List.replicate X.N.length none).set i (some (.d (.pv a)))) M = mh c fs M) :
    PXS X C E0 (.Try [.Return (some eb) p4] [.ExceptHandler (some (.Tuple [.Name x1 p1, .Name x2 p2, .Name x3 p3] kk np)) (some n) [.Return (some eh) p5] pos'] [] [] pos) (s_try isE me mh) := by
  let ts : Addr → Value → Option Addr → L2.TS := fun a cls d De σ H => ∃ (W1 : Wd) (M1 : Mem) (c : Nat) (fs : List D) (dx : Addr) (σ' : L2.St), σ = σ'.set i (some (.ref a)) ∧ cls = .ref (C.ca c) ∧ d = some dx ∧ isE c = true ∧ Ok C W1 H M1 ∧ ExcAt C W1 dx c fs ∧ post C (relV C) E0 De.rt W1 H (mh c fs M1)
  let tb : WX → L2.TS := fun Wx D σ H => ∃ (E1 : XK) (W : Wd) (ρ : Env) (M : Mem), (∀ cls d σ H, E1 cls d H → Wx cls d σ H) ∧ Ok C W H M ∧ Slots C W σ ρ ∧ post C (relV C) E1 D.rt W H (me ρ M)
  refine ⟨_, ps_try3 (ts := ts) (tb := tb) hs hf hN hi hln n1 n2 n3 (fun Wx pn xe tk _ => ?_) (fun a oe cls d pn hz hd => ?_), fun W σ H ρ M D ok sl p => ?_⟩
  · refine ⟨fun pins s σ H D I ⟨E1, W, ρ, M, hE, ok, sl, p⟩ => ?_⟩
    obtain ⟨te, pe, se⟩ := hb Wx pn xe E1 tk hE
    exact (pss_one (ps_ret (pos := p4) pe)).run pins s σ H D I (se W σ H ρ M D.rt ok sl p)
  · refine ⟨fun pins s σ H D I ⟨W1, M1, c, fs, dx, σ', hσ, hcls, hdx, hc, ok, ea, p⟩ => ?_⟩
    subst hcls
    subst hdx
    have hl : σ'.length = X.N.length := by
      have := I.len
      rw [hσ, List.length_set] at this
      exact this
    have hlt : i < X.N.length := (List.getElem?_eq_some_iff.mp hi).1
    have Hd : Held (X.suite a ((a, oe) :: pn)) (C.at W1.B) a dx c fs := ⟨⟨oe, List.mem_cons_self, hz.1, hz.2, hd⟩, Z.T c hc, Z.no c hc, Rep.at ea⟩
    obtain ⟨te, pe, se⟩ := hh a dx oe pn c fs W1.B hc Hd
    refine (pss_one (ps_ret (pos := p5) pe)).run pins s σ H D I (se W1 σ H ((List.replicate X.N.length none).set i (some (.d (.pv a)))) M1 D.rt (ok.at (Same.refl _)) ⟨by rw [hσ, List.length_set, List.length_set, List.length_replicate, hl], fun j d e => ?_⟩ ?_)
    · by_cases hj : i = j
      · subst hj
        rw [List.getElem?_set_self (by rw [List.length_replicate]; exact hlt)] at e
        cases e
        exact ⟨.ref a, by rw [hσ, List.getElem?_set_self (by rw [hl]; exact hlt)], Rep.pv⟩
      · rw [List.getElem?_set_ne hj, List.getElem?_replicate] at e
        split at e <;> cases e
    · rw [pure_]
      exact post.at ok.low p
  · show tb (wT3 X.K [c1, c2, c3] i ts D) D σ H
    unfold s_try at p
    cases q : me ρ M with
    | fail =>
      rw [q] at p
      exact p.elim
    | ok v M1 =>
      rw [q] at p
      exact ⟨E0, W, ρ, M, fun _ _ _ _ z => z.elim, ok, sl, by rw [q]; exact p⟩
    | exc c fs M1 =>
      rw [q] at p
      dsimp only at p
      split at p
      · rename_i hc
        refine ⟨fun cls d H1 => ∃ (W1 : Wd) (dx : Addr), cls = .ref (C.ca c) ∧ d = some dx ∧ Ok C W1 H1 M1 ∧ ExcAt C W1 dx c fs ∧ post C (relV C) E0 D.rt W1 H1 (mh c fs M1), W, ρ, M, ?_, ok, sl, ?_⟩
        · rintro cls d σ1 H1 ⟨W1, dx, rfl, rfl, ok1, ea, p1⟩
          exact ⟨Z.fits c hc, fun a ha => ⟨W1, M1, c, fs, dx, σ1, rfl, rfl, rfl, hc, ok1, ea, p1⟩⟩
        · rw [q]
          intro W1 H1 dx s1 ok1 ea
          refine ⟨W1, dx, rfl, rfl, ok1, ea, ?_⟩
          cases q2 : mh c fs M1 with
          | ok v M2 =>
            rw [q2] at p
            exact fun W2 H2 x s2 ok2 r2 => p W2 H2 x (s1.trans s2) ok2 r2
          | exc c2 fs2 M2 =>
            rw [q2] at p
            exact fun W2 H2 dx2 s2 ok2 ea2 => p W2 H2 dx2 (s1.trans s2) ok2 ea2
          | fail =>
            rw [q2] at p
            exact p.elim
      · exact p.elim
end
/-! a closure called -/
def actV (lm : Nat → Option (Mx VD)) (ρ : Env) : VD → Mem → Res VD
  | .d (.clo k), M => (match lm k with | some m => m ρ M | none => .fail)
  | _, _ => .fail
def e_act (lm : Nat → Option (Mx VD)) (ρ : Env) (i : Nat) : Mx VD := fun ρ' M => (e_var i ρ' M).bind (actV lm ρ)
/-- the lambdas of the waiting def X, on the ground B -/
structure Lams (X : Cx) (B : Heap) (C : Cf) (lm : Nat → Option (Mx VD)) (k : Nat) : Prop where
  cl : X.env.cells = C.cl
  ok : ∀ (i : Nat) (m : Mx VD), lm i = some m → ∀ L, C.lam i = some L → LamS2 X.N X.env.scope L ∧ X.env.qual ++ "<lambda>" = L.qual ∧ LamBind L ∧
    ∀ (A : Around) (outer : List PySem.Env) (s : Shared) (H : Hp) (E : XK) (f c' : Addr), Room k (A.deeper (LamX.lamEnv X L.scope s.heap.objs.size f c')) → PX (lamX X B A outer s H E L f c') C E L.body m
section
variable {X Z : Cx} {B : Heap} {C : Cf} {lm : Nat → Option (Mx VD)} {k : Nat} {σ : L2.St} {ρ : Env}
theorem x_act {i : Nat} {a : Str} {p1 p2 : Pos} {Wx : WX} {E1 : XK} (hs : Susp X σ B) (hL : Lams X B C lm k) (sl0 : Slots C ⟨C.low, []⟩ σ ρ) (eP : Z.prog = X.prog) (ew : Z.w = X.w) (eK : Z.K = X.K) (em : Z.mg = X.mg) (eB : Z.base = B) (hr : Room (k + 1) Z.A)
    (tk : Takes Z Wx) (hE : ∀ cls d σ H, E1 cls d H → Wx cls d σ H) (hN : Z.N[i]? = some a := by rfl) (hv : Vis Z.env.scope a := by first | exact Or.inl rfl | exact Or.inr (Or.inl rfl) | exact Or.inr (Or.inr rfl)) (hd : (a == ("__debug__" : Str)) = false := by decide) (hcd : (a == ("__classdict__" : Str)) = false := by decide) :
    PX Z C E1 (.Call (.Name a p1) [] [] p2) (e_act lm ρ i) := by
  refine ⟨fun σZ HZ Q => ∃ (W : Wd) (kx : Nat) (L : LamI) (m : Mx VD) (f c' : Addr) (dv : Value) (M : Mem), σZ[i]? = some (some (.ref f)) ∧ lm kx = some m ∧ C.lam kx = some L ∧ Ok C W HZ M ∧ HZ f = some (LamO f L C.cl c' dv) ∧ HZ c' = some (LamX.CodeO c' L.qual) ∧ DvAt HZ L.one dv ∧ post C (relV C) E1 Q W HZ (m ρ M), ⟨fun pins s σZ HZ Q I h => ?_⟩, fun W σZ HZ ρZ M Q ok sl p => ?_⟩
  · obtain ⟨W, kx, L, m, f, c', dv, M, h1, h2, h3, ok, a1, a2, a3, p⟩ := h
    obtain ⟨S, hq, hB, hbody⟩ := hL.ok kx m h2 L h3
    refine wpAny_Call_Name_kw (thn ((pe_var (pos := p1) (i := i) hN hv hd hcd).run pins s σZ HZ (fun v H1 => v = .ref f ∧ H1 = HZ) I ⟨.ref f, h1, rfl, rfl⟩) fun u s1 ⟨v, H1, I1, r1, q1⟩ => ?_)
    obtain ⟨rfl, rfl⟩ := q1
    obtain rfl : u = Value.ref f := r1
    obtain ⟨pm, ct, of1⟩ := ext_at I1.hok a1
    refine PySem.W.callWith_F0 ⟨_, _, _, _, of1⟩ ?_
    have e0 : Env0 X.prog X.w X.K X.mg B Z.A Z.stack s1 H1 := by
      have z := I1.env0
      rw [eP, ew, eK, em, eB] at z
      exact z
    have sl : Slots C W σ ρ := sl0.mono ⟨ok.low, W.al, rfl⟩
    have run := clo_run (k := k) (E := E1) (Q := Q) (tb := teOf C E1 m) hs S hq hB e0 hr (by rw [hL.cl]; exact a1) a2 a3 (fun A outer s H hr2 => (hbody A outer s H E1 f c' hr2).pe) ⟨W, ρ, M, ok, sl, p⟩
    rw [← eP, ← ew] at run
    refine wpAny_call (codeAny_mono run fun r s2 hq => ?_)
    cases r with
    | error e => exact passes_call tk hE pins σZ H1 s1 e s2 I1 hq
    | ok fl =>
      cases fl with
      | ret u => exact I1.after hq
      | next => exact False.elim hq
      | brk => exact False.elim hq
      | cont => exact False.elim hq
  · unfold e_act e_var at p
    cases q : ρZ[i]? with
    | none =>
      rw [q] at p
      exact p.elim
    | some o =>
      cases o with
      | none =>
        rw [q] at p
        exact p.elim
      | some v =>
        rw [q] at p
        obtain ⟨x, h1, rx⟩ := sl.2 i v q
        replace p : post C (relV C) E1 Q W HZ (actV lm ρ v M) := p
        unfold actV at p
        split at p
        · rename_i kx
          split at p
          · rename_i m hm
            cases (show Rep C W.B x (.clo kx) from rx) with
            | clo b0 b1 b2 b3 => exact ⟨W, kx, _, m, _, _, _, M, h1, hm, b0, ok, ok.sub _ _ b1, ok.sub _ _ b2, b3.mono ok.sub, p⟩
          · exact p.elim
        · exact p.elim
end
end G

/-! the law's own defs: a field of an error, a call tried, calls tried -/
namespace G
open PySem PySem.Spec PyProof.Rows L2
section
variable {X : Cx} {C : Cf} {E : XK} {a dx : Addr} {c : Nat} {fs : List D}
/-- e.n, where e is the exception at a, whether it has a field n or not -/
theorem x_xfA {e : Expr} {m : Mx VD} {pos : Pos} {n : Str} (Z : Held X C a dx c fs) (h : PX X C E e m) (hb : attributeBase e n X.env (eval e X.env) = eval e X.env := by rfl) : PX X C E (.Attribute e n pos) (e_xf a (C.nm c) fs n m) := by
  by_cases hn : n ∈ C.nm c
  · exact x_xf Z hn h hb
  · obtain ⟨te, pe, se⟩ := h
    have none_ : ((C.nm c).zip fs).lookup n = none := by
      cases q : ((C.nm c).zip fs).lookup n with
      | none => rfl
      | some d =>
        obtain ⟨j, j1, _⟩ := zip_look q
        exact absurd (List.mem_of_getElem? j1) hn
    refine ⟨fun σ H Q => te σ H fun _ _ => False, ⟨fun pins s σ H Q I q => attr_of hb (thn (pe.run pins s σ H _ I q) fun u s1 ⟨_, _, _, _, z⟩ => z.elim)⟩, fun W σ H ρ M Q ok sl p => ?_⟩
    refine se W σ H ρ M _ ok sl (post_bind p fun v M1 W1 H1 x l1 ok1 rv p1 => ?_)
    rw [none_] at p1
    unfold xfV at p1
    split at p1
    · split at p1
      · exact p1.elim
      · exact p1.elim
    · exact p1.elim
theorem t_inP {e1 e2 : Expr} {m1 m2 : Mx VD} {pos : Pos} (hK : C.K = X.K) (hu : X.A.units + 64 < cLine) (h1 : PX X C E e1 m1) (h2 : PX X C E e2 m2) (hm : behindInMarks .In e2 = false := by rfl) : PXT X C E (.Compare e1 [.In] [e2] pos) (e_asB (e_op f_in m1 m2)) := t_cmp (by rw [hK]; exact o_in hu) (p_inn false) h1 h2 hm
theorem t_eqP {e1 e2 : Expr} {m1 m2 : Mx VD} {pos : Pos} (hK : C.K = X.K) (hu : X.A.units + 64 < cLine) (h1 : PX X C E e1 m1) (h2 : PX X C E e2 m2) : PXT X C E (.Compare e1 [.Eq] [e2] pos) (e_asB (e_op f_eq m1 m2)) := t_cmp (by rw [hK]; exact o_eqP hu) (p_eqn false) h1 h2
/-- what a def's body is to reach, from what the def is to reach -/
theorem postS_fnM {W : Wd} {H : Hp} {M : Mem} {n : Nat} {body : Sx} {ds : List VD} {Q : VK} (ok : Ok C W H M) (p : post C (relV C) E Q W H (fnM n body ds M)) : postS C E0 { nx := fun _ H' => Q .non H', rt := Q } W H (body (ds.map some ++ List.replicate (n - ds.length) none) M) := by
  unfold fnM nox runF at p
  have fin : ∀ {v : VD} {M1 : Mem}, post C (relV C) E Q W H (trim M.length (.ok v M1)) → ∀ W1 H1 x, Step W H W1 H1 → Ok C W1 H1 M1 → RepV C W1 x v → Q x H1 := fun {v M1} p W1 H1 x s1 ok1 r1 => by
    unfold trim at p
    dsimp only at p
    split at p
    · rename_i hc
      rw [Bool.and_eq_true] at hc
      obtain ⟨s2, ok2⟩ := Ok.take s1 ok1 (Nat.le_of_eq ok.len) hc.2
      exact p _ _ _ s2 ok2 (r1.take hc.1)
    · exact p _ _ _ s1 ok1 r1
  cases q : body (ds.map some ++ List.replicate (n - ds.length) none) M with
  | nx ρ M1 =>
    rw [q] at p
    exact fun W1 H1 σ1 s1 ok1 _ => fin (v := .d .non) p W1 H1 _ s1 ok1 (show Rep C W1.B V.non D.non from .non)
  | ret v M1 =>
    rw [q] at p
    exact fin p
  | brk _ _ => rw [q] at p; exact p.elim
  | ct _ _ => rw [q] at p; exact p.elim
  | exc _ _ _ => rw [q] at p; exact p.elim
  | fail => rw [q] at p; exact p.elim
theorem fnM_ok {n : Nat} {b : Sx} {ds : List VD} {M : Mem} : (∃ v M1, fnM n b ds M = .ok v M1) ∨ fnM n b ds M = .fail := by
  unfold fnM
  generalize runF n b ds M = r
  cases r with
  | ok v M1 =>
    left
    unfold nox trim
    dsimp only
    split
    · exact ⟨_, _, rfl⟩
    · exact ⟨_, _, rfl⟩
  | exc c fs M1 => exact .inr rfl
  | fail => exact .inr rfl
theorem post_fnM {W : Wd} {H : Hp} {M : Mem} {n : Nat} {b : Sx} {ds : List VD} {Q : VK} {E' : XK} (p : post C (relV C) E Q W H (fnM n b ds M)) : post C (relV C) E' Q W H (fnM n b ds M) := by
  rcases fnM_ok (n := n) (b := b) (ds := ds) (M := M) with ⟨v, M1, e⟩ | e
  · rw [e] at p ⊢
    exact p
  · rw [e] at p
    exact p.elim
def fieldV (a : Addr) (b : Sx) : List VD → Mem → Res VD
  | [.d (.pv i)], M => if i = a then fnM 1 b [.d (.pv a)] M else .fail
  | _, _ => .fail
def e_field (a : Addr) (b : Sx) (ms : Mx (List VD)) : Mx VD := fun ρ M => (ms ρ M).bind (fieldV a b)
/-- x(e), where e is the exception at a -/
theorem x_field {x p0 : Str} {st : Stmt} {f : Addr} {fd : FuncData} {e : Expr} {ms : Mx (List VD)} {b : Sx} {p pos : Pos} (Z : Held X C a dx c fs) (F : Fun X.K x x st f fd) (S : FnScope [p0] [p0] (defScope st)) (hb : Binds X.K fd [p0] []) (hm : X.mg x = some (.ref f)) (hk : PySem.W.keepIn X.K (.ref f) = true)
    (deep : X.A.depth < recursionLimit) (hbody : ∀ (cdv : Value) (s : Shared) (H : Hp) (q : Addr × Obj), Held (L2H.cxH CX0 X.prog X.w X.K X.mg X.base [p0] x (defScope st) f cdv X.A X.stack s H E0 q) C a dx c fs → PXSs (L2H.cxH CX0 X.prog X.w X.K X.mg X.base [p0] x (defScope st) f cdv X.A X.stack s H E0 q) C E0 (defBody st) b)
    (h : PXA X C E [e] ms) (hg : Gl X x := by rfl) (hdb : (x == ("__debug__" : Str)) = false := by decide) (he : starEach [e] X.env = (false, eval e X.env) :: starEach [] X.env := by rfl) (hpl : (backTo pos (starEach [] X.env)).any (·.1) = false := by rfl) :
    PX X C E (.Call (.Name x p) [e] [] pos) (e_field a b ms) := by
  obtain ⟨ta, pa, sa⟩ := h
  obtain ⟨oc, od, kV, doc, pm, an, cdv, ct, osl, rfl, lk, hcd⟩ := F.ex
  refine ⟨fun σ H Q => ta σ H fun ys H1 => ys = [.ref a] ∧ ∃ W M, Ok C W H1 M ∧ post C (relV C) E0 Q W H1 (fnM 1 b [.d (.pv a)] M), ⟨fun pins s σ H Q I q => ?_⟩, fun W σ H ρ M Q ok sl q => ?_⟩
  · refine wpAny_Call_Name_kw (ld_glob I hg hm ?_ hdb)
    refine PySem.W.callWith_K (h₀ := X.base) I.ok.mod.kin hk (thn (pa.run pos pins s σ H _ I q) fun us s1 ⟨vs, H1, I1, r, ev, W, M, ok, q1⟩ => ⟨I1.kIn, ?_⟩) he hpl
    subst ev
    obtain ⟨oe, hp, z1, z2, ve, z3⟩ := Z.pin
    have pin := I1.pin (a, oe) (List.mem_append_left _ hp)
    have pinOk : L2H.PinOk X.stack H1 s1 (a, oe) := ⟨pin.1, pin.2.1, fun hm => (List.mem_cons.mp (I1.stkSub a hm)).elim pin.2.2.1 pin.2.2.2.1, pin.2.2.2.2⟩
    obtain ⟨t, pt, st2⟩ := hbody cdv s1 H1 (a, oe) ⟨⟨oe, List.mem_cons_self, z1, z2, ve, z3⟩, Z.T, Z.no, Z.rep⟩
    have bt := hb s1 us I1.kIn (by rw [List.append_nil, ← r.length]; rfl)
    rw [List.append_nil] at bt
    have go := run_pin (Q := Q) lk hcd S deep pinOk I1.env0 bt r rfl pt (st2 W _ H1 _ M _ ok (slots_start (.cons (show RepV C W (.ref a) (.d (.pv a)) from Rep.pv) .nil)) (postS_fnM ok q1))
    refine wpAny_call (codeAny_mono go fun r s2 hq => ?_)
    cases r with
    | error e => exact hq.elim
    | ok fl =>
      cases fl with
      | ret u => exact I1.after hq
      | next => exact False.elim hq
      | brk => exact False.elim hq
      | cont => exact False.elim hq
  · refine sa W σ H ρ M _ ok sl (post_bind q fun v M1 W1 H1 y l1 ok1 rv q1 => ?_)
    unfold fieldV at q1
    split at q1
    · rename_i i
      split at q1
      · rename_i hi
        subst hi
        obtain ⟨z, rfl, rz⟩ := rv.one
        cases (show Rep C W1.B z (.pv i) from rz)
        exact ⟨rfl, W1, M1, ok1, post_fnM q1⟩
      · exact q1.elim
    · exact q1.elim
end
end G

/-! the law's own defs for calls that are tried: what they compute -/
namespace G
open PySem PySem.Spec PyProof.Rows L2
/-- _law_field -/
def b_law_field (a : Addr) (ns : List Str) (fs : List D) : Sx :=
    s_seq (s_if (e_asB (e_op f_in (e_xf a ns fs "code" (e_var 0)) (e_lst (a_cons (e_c (.str [73, 110, 118, 97, 108, 105, 100, 76, 105, 110, 101])) (a_cons (e_c (.str [73, 110, 118, 97, 108, 105, 100, 83, 116, 101, 112])) (a_cons (e_c (.str [73, 110, 118, 97, 108, 105, 100, 84, 97, 98, 108, 101])) (a_cons (e_c (.str [73, 110, 118, 97, 108, 105, 100, 66, 97, 100])) (a_cons (e_c (.str [78, 111, 116, 66, 111, 114, 110])) (a_cons (e_c (.str [78, 111, 116, 70, 114, 101, 101])) (a_cons (e_c (.str [85, 110, 107, 110, 111, 119, 110, 76, 101, 116, 116, 101, 114])) a_nil)))))))))) (s_ret (e_xf a ns fs "at" (e_var 0))) s_skip)
    (s_seq (s_if (e_asB (e_op f_in (e_xf a ns fs "code" (e_var 0)) (e_lst (a_cons (e_c (.str [84, 111, 111, 77, 97, 110, 121])) (a_cons (e_c (.str [70, 117, 108, 108])) a_nil))))) (s_ret (e_xf a ns fs "most" (e_var 0))) s_skip)
    (s_seq (s_if (e_asB (e_op f_in (e_xf a ns fs "code" (e_var 0)) (e_lst (a_cons (e_c (.str [73, 110, 118, 97, 108, 105, 100, 84, 101, 120, 116])) (a_cons (e_c (.str [73, 110, 118, 97, 108, 105, 100, 80, 97, 103, 101])) a_nil))))) (s_ret (e_xf a ns fs "line" (e_var 0))) s_skip)
    (s_seq (s_if (e_asB (e_op f_eq (e_xf a ns fs "code" (e_var 0)) (e_c (.str [85, 110, 107, 110, 111, 119, 110, 83, 116, 97, 116, 101])))) (s_ret (e_xf a ns fs "state" (e_var 0))) s_skip)
    (s_ret (e_if (e_asB (e_op f_in (e_xf a ns fs "code" (e_var 0)) (e_lst (a_cons (e_c (.str [73, 110, 118, 97, 108, 105, 100, 80, 97, 112, 101, 114])) (a_cons (e_c (.str [79, 116, 104, 101, 114, 75, 105, 110, 100, 115])) (a_cons (e_c (.str [79, 116, 104, 101, 114, 67, 111, 109, 101, 114, 115])) (a_cons (e_c (.str [78, 111, 116, 104, 105, 110, 103, 76, 101, 102, 116])) a_nil))))))) (e_c .non) (e_xf a ns fs "given" (e_var 0)))))))
/-- the value of _law_try's handler -/
def e_hand (a : Addr) (ns : List Str) (fs : List D) : Mx VD := e_tup (a_cons (e_xf a ns fs "code" (e_var 1)) (a_cons (e_field a (b_law_field a ns fs) (a_cons (e_var 1) a_nil)) a_nil))
def handV (nm : Nat → List Str) (c : Nat) (fs : List D) (M : Mem) : Res VD := e_hand 0 (nm c) fs [none, some (.d (.pv 0))] M
def xfR (o : Option D) (M : Mem) : Res VD := match o with
  | some d => .ok (.d d) M
  | none => .fail
theorem xf_at {a : Addr} {ns : List Str} {fs : List D} {n : Str} {i : Nat} {ρ : Env} {M : Mem} (h : ρ[i]? = some (some (.d (.pv a)))) : e_xf a ns fs n (e_var i) ρ M = xfR ((ns.zip fs).lookup n) M := by
  unfold e_xf e_var
  rw [h]
  show xfV a _ (.d (.pv a)) M = _
  unfold xfV xfR
  dsimp only
  rw [if_pos rfl]
  all_goals (cases List.lookup n (ns.zip fs) <;> rfl)
theorem seq_if {t : Mx Bool} {v : Mx VD} {y : Sx} {ρ : Env} {M : Mem} : s_seq (s_if t (s_ret v) s_skip) y ρ M = match t ρ M with
    | .ok true M1 => (v ρ M1).out fun x M2 => .ret x M2
    | .ok false M1 => y ρ M1
    | .exc c fs M1 => .exc c fs M1
    | .fail => .fail := by
  unfold s_seq s_if
  cases t ρ M with
  | ok c M1 =>
    cases c with
    | true =>
      show ((v ρ M1).out fun x M2 => Out.ret x M2).seq y = (v ρ M1).out fun x M2 => .ret x M2
      cases v ρ M1 <;> rfl
    | false => rfl
  | exc c fs M1 => rfl
  | fail => rfl
theorem field_pure {a : Addr} {ns : List Str} {fs : List D} {M : Mem} : fnM 1 (b_law_field a ns fs) [.d (.pv a)] M = fnM 1 (b_law_field 0 ns fs) [.d (.pv 0)] M := by
  have h1 : ∀ (a : Addr) (n : Str) (M : Mem), e_xf a ns fs n (e_var 0) [some (.d (.pv a))] M = xfR ((ns.zip fs).lookup n) M := fun a n M => xf_at rfl
  have key : ∀ M, b_law_field a ns fs [some (.d (.pv a))] M = b_law_field 0 ns fs [some (.d (.pv 0))] M := fun M => by
    unfold b_law_field
    simp only [seq_if, e_asB, e_op, e_if, s_ret, e_lst, a_cons, a_nil, e_c, h1]
  have k2 : runF 1 (b_law_field a ns fs) [.d (.pv a)] M = runF 1 (b_law_field 0 ns fs) [.d (.pv 0)] M := by
    unfold runF
    rw [show (List.map some [VD.d (D.pv a)] ++ List.replicate (1 - [VD.d (D.pv a)].length) none : Env) = [some (.d (.pv a))] from rfl, show (List.map some [VD.d (D.pv 0)] ++ List.replicate (1 - [VD.d (D.pv 0)].length) none : Env) = [some (.d (.pv 0))] from rfl, key]
  unfold fnM
  rw [k2]
theorem hand_pure {a : Addr} {nm : Nat → List Str} {c : Nat} {fs : List D} {M : Mem} : e_hand a (nm c) fs [none, some (.d (.pv a))] M = handV nm c fs M := by
  have h1 : ∀ (a : Addr) (n : Str) (M : Mem), e_xf a (nm c) fs n (e_var 1) [none, some (.d (.pv a))] M = xfR (((nm c).zip fs).lookup n) M := fun a n M => xf_at rfl
  have h2 : ∀ (a : Addr) (M : Mem), e_field a (b_law_field a (nm c) fs) (a_cons (e_var 1) a_nil) [none, some (.d (.pv a))] M = fnM 1 (b_law_field a (nm c) fs) [.d (.pv a)] M := fun a M => by
    show fieldV a _ [.d (.pv a)] M = _
    unfold fieldV
    dsimp only
    rw [if_pos rfl]
  unfold handV e_hand
  simp only [e_tup, a_cons, a_nil, h1, h2, field_pure (a := a)]
end G

/-! _law_try, _law_tries -/
namespace G
open PySem PySem.Spec PyProof.Rows L2
def m_law_try (lm : Nat → Option (Mx VD)) (ρ : Env) (nm : Nat → List Str) (isE : Nat → Bool) : List VD → Mem → Res VD := fnM 2 (s_try isE (e_tup (a_cons (e_c (.str [])) (a_cons (e_act lm ρ 0) a_nil))) (handV nm))
def m_law_tries (lm : Nat → Option (Mx VD)) (ρ : Env) (nm : Nat → List Str) (isE : Nat → Bool) : List VD → Mem → Res VD := fnM 2 (s_ret (e_comp [1] (i_any (e_var 0)) (g_name 1) e_yes (e_call 1 (m_law_try lm ρ nm isE) (a_cons (e_var 1) a_nil))))
theorem units_mark {k : Nat} {A : Around} {v : Option Value} {env : PySem.Env} (r : Room k A) : ((A.mark v).deeper env).units + 64 < cLine := by
  have := r.units
  have h2 := r.un
  show A.units + 3 + 64 < cLine
  omega
/-- the text of _law_field walked -/
abbrev FieldW (K : PySem.W.Frag) (st : Stmt) : Prop := ∀ (X : Cx) (C : Cf) (a dx : Addr) (c : Nat) (fs : List D), X.K = K → C.K = K → X.A.units + 64 < cLine → X.N[0]? = some ("_law_e" : Str) → Vis X.env.scope "_law_e" → Held X C a dx c fs → PXSs X C E0 (defBody st) (b_law_field a (C.nm c) fs)
/-- the law's defs for calls that are tried, in the module -/
structure TryK (K : PySem.W.Frag) (mg : Str → Option Value) (stf stt : Stmt) (ff ft : Addr) (ffd ftd : FuncData) (g1 g2 g3 : Addr) : Prop where
  Ff : Fun K "_law_field" "_law_field" stf ff ffd
  Sf : FnScope ["_law_e"] ["_law_e"] (defScope stf)
  bf : Binds K ffd ["_law_e"] []
  mf : mg "_law_field" = some (.ref ff)
  kf : PySem.W.keepIn K (.ref ff) = true
  vf : Vis (defScope stf) "_law_e"
  Wf : FieldW K stf
  Ft : Fun K "_law_try" "_law_try" stt ft ftd
  St : FnScope ["_law_ask", "_law_e"] ["_law_ask"] (defScope stt)
  bt : Binds K ftd ["_law_ask"] []
  mt : mg "_law_try" = some (.ref ft)
  kt : PySem.W.keepIn K (.ref ft) = true
  m1 : mg "GapError" = some (.ref g1)
  m2 : mg "Missing" = some (.ref g2)
  m3 : mg "NothingLeft" = some (.ref g3)
section
variable {X : Cx} {B : Heap} {C : Cf} {lm : Nat → Option (Mx VD)} {k : Nat} {σ : L2.St} {ρ : Env} {stf stt : Stmt} {ff ft : Addr} {ffd ftd : FuncData} {g1 g2 g3 : Addr} {isE : Nat → Bool}
theorem fn_try {j kk1 kk2 kk3 : Nat} {q1 q2 q3 q4 q5 q6 q7 q8 q9 q10 q11 q12 q13 q14 q15 q16 q17 q18 : Pos} (T : TryK X.K X.mg stf stt ff ft ffd ftd g1 g2 g3) (hK : C.K = X.K) (hs : Susp X σ B) (hL : Lams X B C lm k) (sl0 : Slots C ⟨C.low, []⟩ σ ρ) (Z : Excs X.K C [.ref g1, .ref g2, .ref g3] isE)
    (hb : defBody stt = [.Try [.Return (some (.Tuple [.Constant (.str "") j q1, .Call (.Name "_law_ask" q2) [] [] q3] kk1 q4)) q5] [.ExceptHandler (some (.Tuple [.Name "GapError" q6, .Name "Missing" q7, .Name "NothingLeft" q8] kk2 q9)) (some "_law_e") [.Return (some (.Tuple [.Attribute (.Name "_law_e" q10) "code" q11, .Call (.Name "_law_field" q12) [.Name "_law_e" q13] [] q14] kk3 q15)) q16] q17] [] [] q18])
    (he : (defScope stt).names.lookup ("_law_e" : Str) = some .local) (va : Vis (defScope stt) "_law_ask") (l1 : (defScope stt).names.lookup ("GapError" : Str) = some .globalImplicit) (l2 : (defScope stt).names.lookup ("Missing" : Str) = some .globalImplicit) (l3 : (defScope stt).names.lookup ("NothingLeft" : Str) = some .globalImplicit) (l4 : (defScope stt).names.lookup ("_law_field" : Str) = some .globalImplicit) :
    FnOk X.prog X.w X.K X.mg B CX0 (k + 2) ft ftd ["_law_ask"] (spD C 1 (m_law_try lm ρ C.nm isE)) := by
  refine fn_mk (k := k + 1) T.Ft T.St hK rfl fun cdv A outer s H E c => ?_
  rw [hb]
  refine xss_one (xs_try (X := (cxOf CX0 X.prog X.w X.K X.mg B ["_law_ask", "_law_e"] "_law_try" (defScope stt) ft cdv A outer s H E).nox) (i := 1) (mx := fun a c fs => e_hand a (C.nm c) fs) rfl rfl c.nd rfl he ⟨l1, by decide, .inl T.m1⟩ ⟨l2, by decide, .inl T.m2⟩ ⟨l3, by decide, .inl T.m3⟩ Z ?_ ?_ fun a c fs M => hand_pure)
  · intro Wx pn xe E1 tk hE
    exact x_tup (xa_cons (x_str []) (xa_cons (x_act (a := "_law_ask") (i := 0) hs hL sl0 rfl rfl rfl rfl rfl c.hr tk hE rfl va) xa_nil))
  · intro a dx oe pn c0 fs0 h hc Hd
    have ve : Vis (defScope stt) "_law_e" := .inl he
    refine x_tup (xa_cons (x_xfA Hd (x_var 1 rfl ve)) (xa_cons (x_field Hd T.Ff T.Sf T.bf T.mf T.kf c.hr.depth (fun cdv s H q Hq => T.Wf _ _ a dx c0 fs0 rfl hK (units_mark c.hr) rfl T.vf Hq) (xa_cons (x_var 1 rfl ve) xa_nil) l4) xa_nil))
end
end G

/-! calls that are tried, in a law -/
namespace G
open PySem PySem.Spec PyProof.Rows L2
section
variable {X : Cx} {pins : List (Addr × Obj)} {σ : L2.St} {H : Hp} {s : Shared}
open Classical in
/-- a def waits: its cells lie in a ground of their own -/
theorem susp_of (I : Inv X pins σ H s) (hfn : ∀ x, X.fn x = true) : ∃ B, Susp X σ B ∧ Env0 X.prog X.w X.K X.mg B X.A X.stack s H := by
  let hid : Hp := fun b => if (∃ o, X.base.get? b = some o) ∨ ∃ x, X.env.cells.lookup x = some b then none else some (.lst [])
  have inB : ∀ b o, s.heap.get? b = some o → ((∃ o, X.base.get? b = some o) ∨ ∃ x, X.env.cells.lookup x = some b) → (hidT s.heap hid).get? b = some o := fun b o e h => hidT_get e (if_pos h)
  have ofB : ∀ b o, (hidT s.heap hid).get? b = some o → s.heap.get? b = some o ∧ ((∃ o, X.base.get? b = some o) ∨ ∃ x, X.env.cells.lookup x = some b) := fun b o e => by
    obtain ⟨e1, e2⟩ := of_hidT e
    refine ⟨e1, ?_⟩
    by_cases h : (∃ o, X.base.get? b = some o) ∨ ∃ x, X.env.cells.lookup x = some b
    · exact h
    · have e2 : (if (∃ o, X.base.get? b = some o) ∨ ∃ x, X.env.cells.lookup x = some b then none else some (HO.lst [])) = none := e2
      rw [if_neg h] at e2
      cases e2
  have up : ∀ b o, X.base.get? b = some o → (hidT s.heap hid).get? b = some o := fun b o e => inB b o (I.bk b o e) (.inl ⟨o, e⟩)
  have cellB : ∀ {x c v}, X.env.cells.lookup x = some c → s.heap.IsCell c v → (hidT s.heap hid).IsCell c v := fun {x c v} e ⟨o, a, b⟩ => ⟨o, inB c o a (.inr ⟨x, e⟩), b⟩
  refine ⟨hidT s.heap hid, ⟨I.len, I.ok.inj, I.ok.has, fun x c e => ?_, fun i x v hi hv hx => ?_⟩, ⟨I.ok.frames, ⟨I.mod.kin.keeps up, I.mod.glob.keeps up, ?_, I.mod.nolimit.keeps up⟩, fun b o e => ?_, Nat.le_of_eq (hidT_size _ _), ?_, I.stkFree, I.hok, I.bare⟩⟩
  · obtain ⟨v, hv⟩ := I.cell x c e
    exact ⟨v, cellB e hv⟩
  · obtain ⟨m, hn, hl⟩ := I.loc
    have vis : Vis X.env.scope x := hx.elim (fun z => .inr (.inl z)) fun z => .inr (.inr z)
    obtain ⟨u, ru, look⟩ := hl i x v hi hv vis
    rcases look with ⟨z, _⟩ | ⟨_, c, hc, hcell⟩
    · have z : X.env.scope.names.lookup x = some .local := z
      rcases hx with hx | hx <;> rw [hx] at z <;> cases z
    · exact ⟨u, c, ru, hc, cellB hc hcell⟩
  · obtain ⟨mb, h1, h2⟩ := I.mod.blt
    exact ⟨mb, h1.keeps up, h2⟩
  · obtain ⟨e1, e2⟩ := ofB b o e
    refine ⟨e1, ?_⟩
    rcases e2 with ⟨o2, e2⟩ | ⟨x, e2⟩
    · exact (I.bs b o2 e2).2
    · exact I.freeC x b e2
  · refine funFrames_none I.stack fun L hL => ?_
    cases q : (hidT s.heap hid).get? L with
    | none => rfl
    | some o =>
      obtain ⟨e1, e2⟩ := ofB L o q
      rcases e2 with ⟨o2, e2⟩ | ⟨x, e2⟩
      · have z := (I.stack.mem hL).1
        rw [e2] at z
        cases z
      · obtain ⟨v, oc, c1, c2⟩ := I.cell x L e2
        rcases List.mem_cons.mp (I.stkSub L hL) with z | z
        · obtain ⟨m, ⟨od, es, ep, d1, d2, _⟩, _⟩ := I.loc
          rw [z, d1] at c1
          cases c1
          rw [d2] at c2
          cases c2
        · have big := I.ok.cab x L (hfn x) e2
          obtain ⟨_, o3, o4, _⟩ := I.ok.funs.mem z
          exact absurd (Heap.lt_size o4) (Nat.not_lt.mpr big)
end
/-- what of the slots never changes -/
def dOnly (ρ : Env) : Env := ρ.map fun o => match o with
  | some (.d x) => some (.d x)
  | _ => none
theorem slots_low {C : Cf} {W : Wd} {σ : L2.St} {ρ : Env} (s : Slots C W σ ρ) : Slots (C.at W.B) ⟨W.B, []⟩ σ (dOnly ρ) := by
  refine ⟨by rw [s.1]; simp [dOnly], fun i d e => ?_⟩
  unfold dOnly at e
  rw [List.getElem?_map] at e
  cases q : ρ[i]? with
  | none => rw [q] at e; cases e
  | some o =>
    rw [q] at e
    cases o with
    | none => cases e
    | some v =>
      cases v with
      | adr j => cases e
      | d x =>
        cases e
        obtain ⟨y, h1, h2⟩ := s.2 i _ q
        exact ⟨y, h1, Rep.at h2⟩
section
variable {X : Cx} {C : Cf} {E : XK} {CX : CXT} {k : Nat} {lm : Nat → Option (Mx VD)} {nm : Nat → List Str} {isE : Nat → Bool}
/-- x(e): a def of the law that calls lambdas of this def -/
def e_lamcall (m : Env → List VD → Mem → Res VD) (ms : Mx (List VD)) : Mx VD := fun ρ M => (ms ρ M).bind fun vs M1 => if vs.length = 1 then m (dOnly ρ) vs M1 else .fail
theorem x_lamcall {x p0 : Str} {f : Addr} {fd : FuncData} {j : Nat} {m : Env → List VD → Mem → Res VD} {e : Expr} {ms : Mx (List VD)} {p pos : Pos} (c : Cxx X C E CX k) (hfn : ∀ x, X.fn x = true) (hm : X.mg x = some (.ref f)) (hk : PySem.W.keepIn X.K (.ref f) = true) (hb : Binds X.K fd [p0] [])
    (F : ∀ (B : Heap) (h : Hp) (σ : L2.St) (ρ : Env), Susp X σ B → Slots (C.at h) ⟨h, []⟩ σ ρ → FnOk X.prog X.w X.K X.mg B CX0 j f fd [p0] (spD (C.at h) 1 (m ρ))) (hne : ∀ ρ vs M, (∃ v M1, m ρ vs M = .ok v M1) ∨ m ρ vs M = .fail) (ha : PXA X C E [e] ms) (hj : j ≤ k := by decide) (hg : Gl X x := by rfl)
    (hdb : (x == ("__debug__" : Str)) = false := by decide) (he : starEach [e] X.env = (false, eval e X.env) :: starEach [] X.env := by rfl) (hpl : (backTo pos (starEach [] X.env)).any (·.1) = false := by rfl) : PX X C E (.Call (.Name x p) [e] [] pos) (e_lamcall m ms) := by
  obtain ⟨ta, pa, sa⟩ := ha
  refine ⟨fun σ H Q => ta σ H fun ys H1 => ∃ W ρ M vs, Ok C W H1 M ∧ Slots C W σ ρ ∧ RepVA C W ys vs ∧ vs.length = 1 ∧ post C (relV C) E0 Q W H1 (m (dOnly ρ) vs M), ⟨fun pins s σ H Q I q => ?_⟩, fun W σ H ρ M Q ok sl q => ?_⟩
  · refine wpAny_Call_Name_kw (ld_glob I hg hm ?_ hdb)
    refine PySem.W.callWith_K (h₀ := X.base) I.ok.mod.kin hk (thn (pa.run pos pins s σ H _ I q) fun us s1 ⟨ys, H1, I1, r, W, ρ, M, vs, ok, sl, rv, hl, q1⟩ => ⟨I1.kIn, ?_⟩) he hpl
    obtain ⟨B, S, e0⟩ := susp_of I1 hfn
    have FF := F B W.B σ (dOnly ρ) S (slots_low sl)
    have bt := hb s1 us I1.kIn (by rw [List.append_nil, ← r.length, rv.length, hl]; rfl)
    rw [List.append_nil] at bt
    have go := FF.run X.A X.stack s1 H1 ⟨us, []⟩ us ys Q E0 (c.hr.mono hj) e0 bt r ⟨W, M, vs, ok.at (Same.refl _), RepVA.at rv, hl, post.at ok.low q1⟩
    refine wpAny_call (codeAny_mono go fun r s2 hq => ?_)
    cases r with
    | error e => exact hq.elim
    | ok fl =>
      cases fl with
      | ret u => exact I1.after hq
      | next => exact False.elim hq
      | brk => exact False.elim hq
      | cont => exact False.elim hq
  · refine sa W σ H ρ M _ ok sl (post_bind q fun vs M1 W1 H1 ys l1 ok1 rv q1 => ?_)
    split at q1
    · rename_i hl
      refine ⟨W1, ρ, M1, vs, ok1, sl.mono l1.le, rv, hl, ?_⟩
      rcases hne (dOnly ρ) vs M1 with ⟨v, M2, e⟩ | e
      · rw [e] at q1 ⊢
        exact q1
      · rw [e] at q1
        exact q1.elim
    · exact q1.elim
end
end G

/-! a law that makes lambdas -/
namespace G
open PySem PySem.Spec PyProof.Rows L2
abbrev lawQ : Str := ("law" : Str) ++ ".<locals>." ++ "<lambda>"
abbrev cfX (K : PySem.W.Frag) (ca : Nat → Addr) (nm : Nat → List Str) (tb : List (Addr × Str)) (cl : List (Str × Addr)) (lam : Nat → Option LamI) (low : Hp) : Cf := ⟨K, ca, nm, tb, cl, lam, low⟩
def spLawT (K : PySem.W.Frag) (Pt : Addr) : Sp := fun vs H Q _ => ∃ (a : Addr) (ns : List Int), vs = [.ref a] ∧ SqL K H a (ns.map V.int) ∧ ns.length ≤ 63 ∧ H Pt = some (.tbl #[]) ∧ ∀ H', Q (.bl true) H'
section
variable {P : Program} {w : World} {K : PySem.W.Frag} {mg : Str → Option Value} {base : Heap} {ca : Nat → Addr} {nm : Nat → List Str} {lam : Nat → Option LamI}
open Classical in
theorem fn_law {f cc Pt : Addr} {params : Arguments} {body : List Stmt} {scope : Scope} {N : List Str} {dV kV doc pm ct oc : Value} {an od : Option Addr} {osl : Array (Option Value)} {k : Nat} {bm : Sx}
    (lk : K.lookup f = some ⟨oc, od, .func (PySem.W.fnOf "law" "law" params body scope dV kV doc pm an (.ref cc) ct), osl⟩) (hcd : PySem.W.codeIn K (.ref cc) "law" = true) (S : FnScope N ["_law_script"] scope) (TB : LamX.TabB base mg cc Pt)
    (hb : ∀ (A : Around) (outer : List PySem.Env) (s : Shared) (H : Hp) (E : XK) (C : Cf), C = cfX K ca nm [(Pt, lawQ)] (cxOf CX0 P w K mg base N "law" scope f (.ref cc) A outer s H E).nox.env.cells lam (fun _ => none) → Cxx (cxOf CX0 P w K mg base N "law" scope f (.ref cc) A outer s H E).nox C E0 CX0 k → LamCx (cxOf CX0 P w K mg base N "law" scope f (.ref cc) A outer s H E).nox C Pt lawQ →
      PXSs (cxOf CX0 P w K mg base N "law" scope f (.ref cc) A outer s H E).nox C E0 body bm)
    (hlaw : ∀ ns : List Int, ns.length ≤ 63 → ∃ M, fnM N.length bm [.d (.scr ns)] [] = .ok (.d (.bl true)) M) :
    FnOk P w K mg base CX0 (k + 1) f (PySem.W.fnOf "law" "law" params body scope dV kV doc pm an (.ref cc) ct) ["_law_script"] (spLawT K Pt) := by
  refine fn_of lk hcd S (fun vs H Q E ⟨a, ns, e, _⟩ => by rw [e]; rfl) fun A outer s H vs Q E hr ⟨a, ns, e, hS, hl, hT, q⟩ => ?_
  subst e
  let C : Cf := cfX K ca nm [(Pt, lawQ)] (cxOf CX0 P w K mg base N "law" scope f (.ref cc) A outer s H E).nox.env.cells lam (fun _ => none)
  obtain ⟨t, pt, st⟩ := hb A outer s H E C rfl ⟨rfl, rfl, S.nd, PassesOwn.never, pass0, fun _ _ _ => pass0, hr, LamX.takes0⟩ ⟨⟨cc, TB, rfl⟩, List.mem_cons_self, fun p hp _ => by
    rw [List.mem_singleton] at hp
    rw [hp], rfl, rfl⟩
  have hB : SqL K (fun b => if b = Pt then none else H b) a (ns.map V.int) := by
    rcases hS with (h | ⟨o, h⟩) | h
    · refine .inl (.inl ?_)
      have z : a ≠ Pt := fun z => by
        rw [z, hT] at h
        cases h
      show (if a = Pt then none else H a) = _
      rw [if_neg z]
      exact h
    · refine .inl (.inr ⟨o, ?_⟩)
      have z : a ≠ Pt := fun z => by
        rw [z, hT] at h
        cases h
      show (if a = Pt then none else H a) = _
      rw [if_neg z]
      exact h
    · exact .inr h
  have ok : Ok C ⟨fun b => if b = Pt then none else H b, []⟩ H [] := by
    refine ⟨fun b o e => ?_, .nil, rfl, (fun i a m h _ => by cases h), fun p hp => ?_, fun p hp => ?_, (fun b o e => by cases e)⟩
    · have e : (if b = Pt then none else H b) = some o := e
      split at e
      · cases e
      · exact e
    · rw [List.mem_singleton] at hp
      subst hp
      exact LamX.TabS.nil hT
    · rw [List.mem_singleton] at hp
      subst hp
      exact if_pos rfl
  obtain ⟨M, eM⟩ := hlaw ns hl
  refine ⟨t, pt.nox, st ⟨fun b => if b = Pt then none else H b, []⟩ _ H _ [] _ ok (slots_start (ds := [.d (.scr ns)]) (.cons (Rep.scr hB) .nil)) (postS_fnM (Q := Q) (E := E0) ok ?_)⟩
  rw [eM]
  intro W' H' x _ _ r
  cases inv_bl r
  exact q H'
/-- where a lambda's body stands -/
theorem cxx_lam {X : Cx} {B : Heap} {A : Around} {outer : List PySem.Env} {s : Shared} {H : Hp} {E : XK} {L : LamI} {f c' : Addr} {C : Cf} {k : Nat} (hK : C.K = X.K) (nd : X.N.Nodup) (hr : Room k (A.deeper (LamX.lamEnv X L.scope s.heap.objs.size f c'))) : Cxx (lamX X B A outer s H E L f c') C E (L2.CX X.prog X.w) k := by
  have tk : Takes (lamX X B A outer s H E L f c') (fun cls d _ H => E cls d H) := takes_of rfl rfl rfl rfl
  refine ⟨hK, rfl, nd, passes_of rfl, passes_call tk fun _ _ _ _ h => h, fun Y e1 e2 => ?_, hr, tk⟩
  have p := passes_call (X := Y) (W := fun _ _ _ _ => False) (E := E0) LamX.takes0 fun _ _ _ _ h => h
  rw [e1, e2] at p
  exact p
end
end G

/-! what the texts of a law with lambdas want -/
namespace G
open PySem PySem.Spec PyProof.Rows L2
/-! places in a text -/
abbrev p000 : Pos := ⟨0, 0, 0, 0⟩
def sAt (b : List Stmt) (i : Nat) : Stmt := b.getD i (.Pass p000)
def sIn : Stmt → List Stmt
  | .If _ b _ _ => b
  | .For _ _ b _ _ => b
  | .While _ b _ _ => b
  | _ => []
def sElse : Stmt → List Stmt
  | .If _ _ b _ => b
  | _ => []
def sVal : Stmt → Expr
  | .Assign _ v _ => v
  | .Return (some v) _ => v
  | .Expr v _ => v
  | .If t _ _ _ => t
  | _ => .Name "" p000
def eAt : Expr → Nat → Expr
  | .List es _, i => es.getD i (.Name "" p000)
  | .Tuple es _ _, i => es.getD i (.Name "" p000)
  | .BoolOp _ es _, i => es.getD i (.Name "" p000)
  | .Call _ es _ _, i => es.getD i (.Name "" p000)
  | .Compare a _ es _, i => (a :: es).getD i (.Name "" p000)
  | .UnaryOp _ e _, _ => e
  | .BinOp a _ b _, i => if i = 0 then a else b
  | _, _ => .Name "" p000
def lamOf (q : Str) (one : Option Str) : Expr → LamI
  | .Lambda ps b sc _ => ⟨q, ps, b, sc, one⟩
  | _ => ⟨q, ⟨[], [], none, [], [], none, []⟩, .Name "" p000, ⟨.function, [], false, false, []⟩, none⟩
theorem fn_free {CX : CXT} {P : Program} {w : World} {K : PySem.W.Frag} {mg : Str → Option Value} {base : Heap} {N : List Str} {qual : Str} {sc : Scope} {f : Addr} {cdv : Value} {A : Around} {outer : List PySem.Env} {s : Shared} {H : Hp} {E : XK} {L : LamI}
    (h : ∀ y ∈ L.scope.names, y.2 = .free → sc.names.lookup y.1 = some .cell) : ∀ y ∈ L.scope.names, y.2 = .free → ∃ c, (cxOf CX P w K mg base N qual sc f cdv A outer s H E).nox.env.cells.lookup y.1 = some c :=
  fun y hy hf => cell_has (h y hy hf)
theorem lamS2_of {N : List Str} {sc : Scope} {L : LamI} (h1 : L.scope.kind = .function) (h2 : L.scope.isCoroutine = false) (h3 : L.scope.isGenerator = false) (h4 : ∀ y ∈ L.scope.names, y.2 ≠ .cell) (h5 : ∀ y ∈ L.scope.names, y.2 = .local → y.1 ∉ N) (h6 : ∀ x, L.one = some x → L.scope.names.lookup x = some .local) (h7 : ∀ y ∈ L.scope.names, y.2 = .free → sc.names.lookup y.1 = some .cell) : LamS2 N sc L :=
  ⟨h1, h2, h3, h4, h5, h6, fun y hy hf => .inl (h7 y hy hf)⟩
theorem one_none {L : LamI} (h : L.one = none) : ∀ x, L.one = some x → L.scope.names.lookup x = some .local := fun x z => by
  rw [h] at z
  cases z
theorem one_some {L : LamI} {a : Str} (h : L.one = some a) (k : L.scope.names.lookup a = some .local) : ∀ x, L.one = some x → L.scope.names.lookup x = some .local := fun x z => by
  rw [h] at z
  cases z
  exact k
theorem def_none {L : LamI} {env : PySem.Env} (h : L.one = none) (d : defaultsOf L.params env = ([], [])) : LamDef L env := .inl ⟨h, d⟩
theorem def_some {L : LamI} {env : PySem.Env} {a : Str} {j : Nat} {p : Pos} (h : L.one = some a) (d : defaultsOf L.params env = ([eval (.Constant (.int 0) j p) env], [])) : LamDef L env := by
  refine .inr ⟨?_, j, p, d⟩
  rw [h]
  intro z
  cases z
theorem bind_none {L : LamI} (h : L.one = none) (b : ∀ cl pm cdv ct, bindArgs (lamFn L cl .none pm cdv ct) ⟨[], []⟩ = pure []) : LamBind L := by
  unfold LamBind
  rw [h]
  exact b
theorem bind_some {L : LamI} {x : Str} (h : L.one = some x) (b : ∀ cl (t : Addr) pm cdv ct (v : Value), ∃ kk, bindArgs (lamFn L cl (.ref t) pm cdv ct) ⟨[], []⟩ = seqItems? (.ref t) >>= kk ∧ kk (some #[v]) = pure [(x, v)]) : LamBind L := by
  unfold LamBind
  rw [h]
  exact b
/-! a callee that lets nothing out -/
section
variable {P : Program} {w : World} {K : PySem.W.Frag} {mg : Str → Option Value} {base : Heap} {C : Cf} {CX : CXT} {c j n : Nat} {x kw : Str} {m : List VD → Mem → Res VD}
theorem MethOk.up (h : MethOk P w K mg base CX0 C c x j m) : MethOk P w K mg base CX C c x j m := ⟨let ⟨f, F, q⟩ := h.ex; ⟨f, FnR.up F, q⟩, h.cl, h.no⟩
theorem MakeOk.up (h : MakeOk P w K mg base CX0 C c x j m) : MakeOk P w K mg base CX C c x j m := ⟨let ⟨f, F, q⟩ := h.ex; ⟨f, FnR.up F, q⟩, h.mg⟩
theorem OwnOk.up (h : OwnOk P w K mg base CX0 C c x j m) : OwnOk P w K mg base CX C c x j m := ⟨let ⟨f, F, q⟩ := h.ex; ⟨f, FnR.up F, q⟩⟩
theorem StatOk.up (h : StatOk P w K mg base CX0 C c x j m) : StatOk P w K mg base CX C c x j m := ⟨let ⟨f, p, mc, F, q⟩ := h.ex; ⟨f, p, mc, FnR.up F, q⟩⟩
theorem PropOk.up (h : PropOk P w K mg base CX0 C c x j m) : PropOk P w K mg base CX C c x j m := ⟨let ⟨f, fd, ps, p, F, q⟩ := h.ex; ⟨f, fd, ps, p, FnOk.up F, q⟩, h.cl⟩
theorem StatKOk.up (h : StatKOk P w K mg base CX0 C c x kw j n m) : StatKOk P w K mg base CX C c x kw j n m := ⟨let ⟨f, fd, ps, p, mc, F, q⟩ := h.ex; ⟨f, fd, ps, p, mc, FnOk.up F, q⟩⟩
theorem CalOk.up (h : CalOk P w K mg base CX0 C x j m) : CalOk P w K mg base CX C x j m := ⟨let ⟨f, F, q⟩ := h.ex; ⟨f, FnR.up F, q⟩⟩
theorem calX_mk {x qual : Str} {st : Stmt} {f : Addr} {fd : FuncData} {ps : List Str} {j n : Nat} {m} (F : Fun K x qual st f fd) (h : FnOk P w K mg base CX j f fd ps (spD C n m)) (hm : mg x = some (.ref f)) (b : Binds K fd ps []) : Callee P w K mg base CX C x j n m :=
  ⟨f, fd, ps, h, hm, F.kp, b⟩
end
/-! a call that is given lambdas -/
structure LamCall (X : Cx) (C : Cf) (x : Str) (j : Nat) (m : Env → List VD → Mem → Res VD) : Prop where
  ex : ∃ f fd p0, X.mg x = some (.ref f) ∧ PySem.W.keepIn X.K (.ref f) = true ∧ Binds X.K fd [p0] [] ∧ ∀ (B : Heap) (h : Hp) (σ : L2.St) (ρ : Env), Susp X σ B → Slots (C.at h) ⟨h, []⟩ σ ρ → FnOk X.prog X.w X.K X.mg B CX0 j f fd [p0] (spD (C.at h) 1 (m ρ))
  ne : ∀ ρ vs M, (∃ v M1, m ρ vs M = .ok v M1) ∨ m ρ vs M = .fail
theorem x_tried {X : Cx} {C : Cf} {E : XK} {CX : CXT} {k j : Nat} {x : Str} {m : Env → List VD → Mem → Res VD} {e : Expr} {ms : Mx (List VD)} {p pos : Pos} (c : Cxx X C E CX k) (hfn : ∀ x, X.fn x = true) (F : LamCall X C x j m) (ha : PXA X C E [e] ms) (hj : j ≤ k := by decide) (hg : Gl X x := by rfl)
    (hdb : (x == ("__debug__" : Str)) = false := by decide) (he : starEach [e] X.env = (false, eval e X.env) :: starEach [] X.env := by rfl) (hpl : (backTo pos (starEach [] X.env)).any (·.1) = false := by rfl) : PX X C E (.Call (.Name x p) [e] [] pos) (e_lamcall m ms) := by
  obtain ⟨f, fd, p0, hm, hk, hb, F1⟩ := F.ex
  exact x_lamcall c hfn hm hk hb F1 F.ne ha hj hg hdb he hpl
/-! an exception class of the text, from what is written -/
theorem sup_first {K : PySem.W.Frag} {C G1 : Addr} {x : Str} {cd cd1 : ClassData} {bm : List Value} (h : PySem.W.clsIn K C = some cd) (hm : cd.mro = .ref C :: bm) (h1 : PySem.W.clsIn K G1 = some cd1) (hm1 : cd1.mro = bm) : PySem.W.ks_superIn K C C x = PySem.W.findIn K (.ref G1) x := by
  have e : PySem.W.findIn K (.ref G1) x = PySem.W.alongIn K x cd1.mro := by
    unfold PySem.W.clsIn at h1
    unfold PySem.W.findIn
    split at h1
    · rename_i hk
      cases h1
      dsimp only
      rw [hk]
    · cases h1
  rw [e, hm1]
  unfold PySem.W.ks_superIn
  rw [h, Option.bind_some, hm]
  have z : ((Value.ref C) != Value.ref C) = false := by simp [bne]
  rw [List.dropWhile_cons]
  rw [z]
  rfl
theorem cls_lk {K : PySem.W.Frag} {a : Addr} {o : Obj} {cd : ClassData} (h : K.lookup a = some o) (hd : o.data = .cls cd) : PySem.W.clsIn K a = some cd := by
  obtain ⟨c, d, dt, sl⟩ := o
  dsimp only at hd
  subst hd
  unfold PySem.W.clsIn
  rw [h]
theorem exm_one {K : PySem.W.Frag} {D : Addr} {c : Value} {b : Bool} (h1 : PySem.W.subIn K (.ref D) (.type "BaseException") = some true) (h2 : PySem.W.isClsIn K D = true) (h3 : PySem.W.typeIn K (.ref D) = some (.type "type")) (h4 : PySem.W.subIn K c (.ref D) = some b) : PySem.W.exmOne K c (.ref D) = some b := by
  have h2' : (PySem.W.clsIn K D).isSome = true := h2
  unfold PySem.W.exmOne PySem.W.kitCls
  simp [h1, h2', h3, h4]
/-- a class that a clause may name -/
structure ExN (K : PySem.W.Frag) (D : Addr) : Prop where
  sub : PySem.W.subIn K (.ref D) (.type "BaseException") = some true
  isC : PySem.W.isClsIn K D = true
  ty : PySem.W.typeIn K (.ref D) = some (.type "type")
theorem exm_three {K : PySem.W.Frag} {c : Value} {D1 D2 D3 : Addr} {b1 b2 b3 : Bool} (h1 : ExN K D1) (h2 : ExN K D2) (h3 : ExN K D3) (s1 : PySem.W.subIn K c (.ref D1) = some b1) (s2 : PySem.W.subIn K c (.ref D2) = some b2) (s3 : PySem.W.subIn K c (.ref D3) = some b3) (hb : (b1 || (b2 || (b3 || false))) = true) : PySem.W.exmAny K c [.ref D1, .ref D2, .ref D3] = some true := by
  unfold PySem.W.exmAny
  rw [exm_one h1.sub h1.isC h1.ty s1]
  unfold PySem.W.exmAny
  rw [exm_one h2.sub h2.isC h2.ty s2]
  unfold PySem.W.exmAny
  rw [exm_one h3.sub h3.isC h3.ty s3]
  unfold PySem.W.exmAny
  dsimp only
  rw [hb]
/-- what is written of an exception class x at a, whose __init__ stands at fI -/
structure ExRow (P : Program) (K : PySem.W.Frag) (mg : Str → Option Value) (x qual : Str) (st : Stmt) (a fI cc cda : Addr) (fl : Str) : Prop where
  at_ : mg x = some (.ref a)
  cls : ∃ nm q N bs bm sn sub ab col dd k0 k1 k2 k3 k5, K.lookup a = some (excClassObj nm q a N bs bm true sn sub ab col dd k0 k1 k2 k3 k5 "ValueError.__new__") ∧ PySem.HandSPX.refsVE bm = true
  sa : PySem.W.findIn K (.ref a) "__setattr__" = some (some (.builtin "object.__setattr__"))
  ga : PySem.W.findIn K (.ref a) "__getattribute__" = some (some (.builtin "BaseException.__getattribute__"))
  gg : PySem.W.findIn K (.ref a) "__getattr__" = some none
  exC : PySem.W.subIn K (.ref a) (.type "BaseException") = some true
  tyC : PySem.W.typeIn K (.ref a) = some (.type "type")
  kC : PySem.W.keepIn K (.ref a) = true
  hdC : PySem.W.hasDictIn K a = true
  n1 : PySem.W.findIn K (.ref a) "code" = some none
  n2 : PySem.W.findIn K (.ref a) fl = some none
  iC : PySem.W.findIn K (.ref a) "__init__" = some (some (.ref fI))
  tI : PySem.W.typeIn K (.ref fI) = some (.type "function")
  fn : ∃ oc od osl dV kV doc pm an ct, K.lookup fI = some ⟨oc, od, .func (iniFn qual (defArgs st) (defBody st) (defScope st) cc dV kV doc pm an (.ref cda) ct), osl⟩ ∧ ∀ us : List Value, us.length = (["self", fl] : List Str).length → bindArgs (iniFn qual (defArgs st) (defBody st) (defScope st) cc dV kV doc pm an (.ref cda) ct) ⟨us, []⟩ = pure ((["self", fl] : List Str).zip us)
  qn : PySem.W.codeIn K (.ref cda) qual = true
  code : ∃ ccl cdd vs ccs file tf, K.lookup cda = some ⟨ccl, cdd, .fields vs, ccs⟩ ∧ vs[2]? = some (.str file tf) ∧ ((P.main.file : Str) == file) = true
  cell : ∃ cl cld csl, K.lookup cc = some ⟨cl, cld, .cell (some (.ref a)), csl⟩
  isC : PySem.W.isClsIn K a = true
  mro : PySem.W.mroIn K a (.ref a) = some true
  sub : PySem.W.subIn K (.ref a) (.type "ValueError") = some true
  sup : PySem.W.ks_superIn K a a "__init__" = some (some (.builtin "ValueError.__init__"))
section
variable {P : Program} {w : World} {K : PySem.W.Frag} {mg : Str → Option Value} {base : Heap} {C : Cf} {x qual : Str} {st : Stmt} {a fI cc cda : Addr} {fl : Str}
theorem ExRow.T (Z : ExRow P K mg x qual st a fI cc cda fl) : OexC K a := ⟨Z.cls, Z.sa, Z.exC, Z.tyC, Z.kC⟩
theorem ExRow.F (Z : ExRow P K mg x qual st a fI cc cda fl) : XfC K a := ⟨Z.ga, Z.gg, Z.exC, Z.hdC⟩
theorem ExRow.no (Z : ExRow P K mg x qual st a fI cc cda fl) : ∀ n ∈ (["code", fl] : List Str), PySem.W.findIn K (.ref a) n = some none := fun n hn => by
  rcases List.mem_cons.mp hn with h | h
  · rw [h]
    exact Z.n1
  · rw [List.mem_singleton.mp h]
    exact Z.n2
theorem ExRow.supK (Z : ExRow P K mg x qual st a fI cc cda fl) (hd : ∃ ar, ((defArgs st).posonlyargs ++ (defArgs st).args).head? = some ar ∧ ar.arg = "self") (top : (P.main.scope.names.lookup ("super" : Str)).isSome = false) (opq : PySem.W.nsIn K cStatics "thirdparty.any" = some none) : SupK P K qual (defArgs st) (defBody st) (defScope st) fI cc cda a ["self", fl] :=
  ⟨Z.T, Z.fn, hd, Z.qn, Z.code, top, Z.cell, Z.isC, Z.mro, opq, Z.sup, Z.sub, Z.iC, Z.tI⟩
theorem excOk_of {c j : Nat} {code : List Nat} {q1 q2 q3 q4 q5 q6 q7 q8 q9 q10 q11 q12 q13 q14 : Pos} {j2 : Nat} (Z : ExRow P K mg x qual st (C.ca c) fI cc cda fl) (hd : ∃ ar, ((defArgs st).posonlyargs ++ (defArgs st).args).head? = some ar ∧ ar.arg = "self") (top : (P.main.scope.names.lookup ("super" : Str)).isSome = false) (opq : PySem.W.nsIn K cStatics "thirdparty.any" = some none)
    (S : IniS ["self", fl] (defScope st)) (hsup : mg "super" = none) (hnm : C.nm c = (["code", fl] : List Str)) (ne : fl ≠ "code") (hdb : (fl == ("__debug__" : Str)) = false) (hcd : (fl == ("__classdict__" : Str)) = false)
    (hb : defBody st = .Expr (.Call (.Attribute (.Call (.Name "super" q1) [] [] q2) "__init__" q3) [.Constant (.str (enc code)) j q4] [] q5) q6 :: [.Assign [.Attribute (.Name "self" q7) "code" q8] (.Constant (.str (enc code)) j2 q9) q10, .Assign [.Attribute (.Name "self" q11) fl q12] (.Name fl q13) q14])
    (hi : ∀ L, interactive (iniEnv qual (defScope st) L fI (.ref cda) cc) = false) (pl : PySem.Sem Bool)
    (he : ∀ L, eval (.Call (.Attribute (.Call (.Name "super" q1) [] [] q2) "__init__" q3) [.Constant (.str (enc code)) j q4] [] q5) (iniEnv qual (defScope st) L fI (.ref cda) cc) = (do
      let ov ← attributeBase (.Call (.Name "super" q1) [] [] q2) "__init__" (iniEnv qual (defScope st) L fI (.ref cda) cc) (eval (.Call (.Name "super" q1) [] [] q2) (iniEnv qual (defScope st) L fI (.ref cda) cc))
      standAt q3.atName
      let (f_1, first) ← holding [ov] (getMethod ov "__init__" pl)
      callWith q5 f_1 first (backTo q5 (starEach [.Constant (.str (enc code)) j q4] (iniEnv qual (defScope st) L fI (.ref cda) cc))) [])) :
    ExcOk P w K mg base C x c code fl 1 := by
  have SK := Z.supK hd top opq
  rw [hb] at SK
  obtain ⟨fd, F, b⟩ := fn_exi (CX := CX0) (P := P) (w := w) (mg := mg) (base := base) (k := 0) (f := fI) S SK hsup rfl hi pl he fun A outer s H E => ini_rest2 S hdb hcd
  exact ⟨Z.T, hnm, ne, Z.at_, Z.n1, Z.n2, fI, fd, F, b, Z.iC, Z.tI⟩
end
end G

/-! lower and upper of plain letters -/
namespace G
open PySem PySem.Spec PyProof.Rows L2
def lowC (c : Nat) : Nat := if 65 ≤ c ∧ c ≤ 90 then c + 32 else c
def upC (c : Nat) : Nat := if 97 ≤ c ∧ c ≤ 122 then c - 32 else c
theorem low_tab : ∀ c : Fin 128, Unicode.lowerOf c.val = [lowC c.val] := by decide +kernel
theorem up_tab : ∀ c : Fin 128, Unicode.upperOf c.val = [upC c.val] := by decide +kernel
theorem flat_one (g : Nat → Nat) (l : List Nat) : (l.map fun c => (#[g c] : Array Nat)).toArray.flatten = (l.map g).toArray := by
  apply Array.ext'
  rw [Array.toList_flatten]
  simp [List.map_map, Function.comp_def]
  induction l with
  | nil => rfl
  | cons a l ih => simp [ih]
theorem placed_one {s : List Nat} {f : Nat → Nat → List Nat} {g : Nat → Nat} (h : ∀ (i c : Nat), s[i]? = some c → f i c = [g c]) : PySem.placed (enc s) f = (s.map g).toArray := by
  unfold PySem.placed
  rw [← flat_one]
  congr 1
  apply Array.ext_getElem?
  intro i
  rw [Array.getElem?_mapIdx]
  show Option.map _ (s.toArray[i]?) = _
  rw [List.getElem?_toArray, List.getElem?_toArray, List.getElem?_map]
  cases e : s[i]? with
  | none => rfl
  | some c =>
    rw [Option.map_some, Option.map_some, h i c e]
theorem lower_enc {s : List Nat} (h : s.all (· < 128) = true) : Txt.lower (enc s) = enc (s.map lowC) := by
  unfold Txt.lower
  rw [placed_one (s := s) (g := lowC) fun i c e => ?_]
  · rfl
  · have hc : c < 128 := by simpa using List.all_eq_true.mp h c (List.mem_of_getElem? e)
    have e2 : (enc s).cps[i]? = some c := by
      show s.toArray[i]? = _
      rw [List.getElem?_toArray]
      exact e
    unfold Unicode.lowerAt
    rw [e2]
    dsimp only
    have n : (c == 0x3A3) = false := by
      simp
      omega
    rw [n, Bool.false_and, if_neg Bool.false_ne_true]
    exact low_tab ⟨c, hc⟩
theorem upper_enc {s : List Nat} (h : s.all (· < 128) = true) : Txt.upper (enc s) = enc (s.map upC) := by
  unfold Txt.upper
  rw [placed_one (s := s) (g := upC) fun i c e => ?_]
  · rfl
  · have hc : c < 128 := by simpa using List.all_eq_true.mp h c (List.mem_of_getElem? e)
    exact up_tab ⟨c, hc⟩
def f_low (x : VD) (M : Mem) : Res VD := match x with
  | .d (.str s) => if s.all (· < 128) ∧ s.length ≤ 5000000 then .ok (.d (.str (s.map lowC))) M else .fail
  | _ => .fail
def f_upp (x : VD) (M : Mem) : Res VD := match x with
  | .d (.str s) => if s.all (· < 128) ∧ s.length ≤ 5000000 then .ok (.d (.str (s.map upC))) M else .fail
  | _ => .fail
def e_m0 (f : VD → Mem → Res VD) (m : Mx VD) : Mx VD := fun ρ M => (m ρ M).bind f
section
variable {X : Cx} {C : Cf} {E : XK} {CX : CXT} {k : Nat}
theorem x_low {o : Expr} {m : Mx VD} {apos pos : Pos} (h : PX X C E o m) (hbase : attributeBase o "lower" X.env (eval o X.env) = eval o X.env := by rfl) (hline : (apos.endLine == pos.line) = true := by rfl) : PX X C E (.Call (.Attribute o "lower" apos) [] [] pos) (e_m0 f_low m) := by
  obtain ⟨te, pe, se⟩ := h
  refine ⟨_, pe_lower pe hbase hline, fun W σ H ρ M Q ok sl p => ?_⟩
  refine se W σ H ρ M _ ok sl (post_bind p fun v M1 W1 H1 x l1 ok1 rv p1 => ?_)
  unfold f_low at p1
  split at p1
  · rename_i s
    split at p1
    · rename_i hc
      cases inv_str rv
      refine ⟨⟨_, rfl⟩, _, rfl, rfl, ?_, ?_⟩
      · rw [enc_len]
        omega
      · rw [lower_enc hc.1]
        exact post_ok p1 ok1 (.str _)
    · exact p1.elim
  · exact p1.elim
theorem x_upp {o : Expr} {m : Mx VD} {apos pos : Pos} (h : PX X C E o m) (hbase : attributeBase o "upper" X.env (eval o X.env) = eval o X.env := by rfl) (hline : (apos.endLine == pos.line) = true := by rfl) : PX X C E (.Call (.Attribute o "upper" apos) [] [] pos) (e_m0 f_upp m) := by
  obtain ⟨te, pe, se⟩ := h
  refine ⟨_, pe_upper pe hbase hline, fun W σ H ρ M Q ok sl p => ?_⟩
  refine se W σ H ρ M _ ok sl (post_bind p fun v M1 W1 H1 x l1 ok1 rv p1 => ?_)
  unfold f_upp at p1
  split at p1
  · rename_i s
    split at p1
    · rename_i hc
      cases inv_str rv
      refine ⟨⟨_, rfl⟩, _, rfl, rfl, ?_, ?_⟩
      · rw [enc_len]
        omega
      · rw [upper_enc hc.1]
        exact post_ok p1 ok1 (.str _)
    · exact p1.elim
  · exact p1.elim
/-! a text times a number -/
def rSRep : R2 := fun x y H Q => ∃ a k, x = .str a ∧ y = .int k ∧ a.length ≤ 1000 ∧ 0 ≤ k ∧ k ≤ 1000 ∧ Q (.str (Txt.mul a k)) H
theorem op_srep : OpR X (binaryOp .Mult) rSRep := by
  intro pins s σ H x y v u Q I rx ry h
  obtain ⟨a, k, rfl, rfl, h1, h2, h3, q⟩ := h
  obtain ⟨t, rfl⟩ := rx
  obtain ⟨t', rfl⟩ := ry
  exact SB.mul (mulOk_of 1000 1000 h1 (by simpa using h3) (by omega) (by decide) (by decide)) fun t2 k2 => ⟨.str (Txt.mul a k), H, I.tok _, ⟨t2, rfl⟩, q⟩
theorem fold_cps : ∀ (n : Nat) (s acc : List Nat), (List.replicate n s.toArray).foldl (· ++ ·) acc.toArray = (acc ++ (List.replicate n s).flatten).toArray
  | 0, s, acc => by simp
  | n + 1, s, acc => by
    rw [List.replicate_succ, List.foldl_cons, List.replicate_succ, List.flatten_cons, ← List.append_assoc]
    rw [show acc.toArray ++ s.toArray = (acc ++ s).toArray by simp]
    exact fold_cps n s (acc ++ s)
theorem mul_enc {s : List Nat} {k : Int} (h : 0 ≤ k) : Txt.mul (enc s) k = enc (List.replicate k.toNat s).flatten := by
  unfold Txt.mul
  split
  · have : k.toNat = 0 := by omega
    rw [this]
    rfl
  · split
    · rename_i h1 h2
      rw [Bool.or_eq_true, beq_iff_eq, beq_iff_eq, enc_len] at h2
      rcases h2 with e | e
      · rw [e]
        simp
      · have : s = [] := List.eq_nil_of_length_eq_zero e
        subst this
        have : (List.replicate k.toNat ([] : List Nat)).flatten = [] := by simp
        rw [this]
    · have := fold_cps k.toNat s []
      rw [List.nil_append] at this
      show (⟨_⟩ : Str) = ⟨_⟩
      congr 1
noncomputable def f_mulS : VD → VD → Mem → Res VD
  | .d (.str s), .d (.int j), M => gi (0 ≤ j ∧ j ≤ 1000 ∧ s.length ≤ 1000) (.ok (.d (.str (List.replicate j.toNat s).flatten)) M) .fail
  | _, _, _ => .fail
theorem p_mulS : OpS C E rSRep f_mulS := fun W H M x y a b Q ok ra rb p => by
  unfold f_mulS at p
  split at p
  · rename_i s j
    unfold gi at p
    split at p
    · rename_i h
      cases inv_str ra
      cases inv_int rb
      refine ⟨_, _, rfl, rfl, ?_, h.1, h.2.1, ?_⟩
      · rw [enc_len]
        exact h.2.2
      · rw [mul_enc h.1]
        exact post_ok p ok (.str _)
    · exact p.elim
  · exact p.elim
theorem x_mulS {a b : Expr} {ma mb : Mx VD} {pos : Pos} (ha : PX X C E a ma) (hb : PX X C E b mb) : PX X C E (.BinOp a .Mult b pos) (e_op f_mulS ma mb) := x_op op_srep p_mulS ha hb
end
end G


namespace G
open PySem PySem.Spec PyProof.Rows L2
noncomputable def b_is_string : Sx :=
    (s_ret (e_and (e_isi .str (e_var 0)) (e_bi (f_bls fun bs => bs.all id) (a_cons (e_comp [2] (i_any (e_var 0)) (g_name 2) e_yes (e_op f_in (e_var 2) (e_var 1))) a_nil))))
noncomputable def m_is_string : List VD → Mem → Res VD := fnM 3 b_is_string
noncomputable def b_is_row : Sx :=
    (s_ret (e_and (e_call 2 m_is_string (a_cons (e_var 0) (a_cons (e_var 1) a_nil))) (e_op f_le (e_bi f_len (a_cons (e_var 0) a_nil)) (e_c (.int 16)))))
noncomputable def m_is_row : List VD → Mem → Res VD := fnM 2 b_is_row
noncomputable def b_is_word : Sx :=
    (s_ret (e_and (e_call 2 m_is_string (a_cons (e_var 0) (a_cons (e_var 1) a_nil))) (e_op f_le (e_bi f_len (a_cons (e_var 0) a_nil)) (e_c (.int 3)))))
noncomputable def m_is_word : List VD → Mem → Res VD := fnM 2 b_is_word
noncomputable def b_is_gap : Sx :=
    (s_seq (s_if (e_orT (e_notT (e_truth (e_isi .str (e_var 0)))) (e_asB (e_op f_ne (e_bi f_len (a_cons (e_var 0) a_nil)) (e_c (.int 2))))) (s_ret (e_c (.bl false))) s_skip)
    (s_ret (e_and (e_op f_in (e_op f_ix (e_var 0) (e_c (.int 0))) (e_op f_add (e_c (.str [60])) (e_var 1))) (e_op f_in (e_op f_ix (e_var 0) (e_c (.int 1))) (e_op f_add (e_var 1) (e_c (.str [62])))))))
noncomputable def m_is_gap : List VD → Mem → Res VD := fnM 2 b_is_gap
noncomputable def b__law_open : Sx :=
    (s_seq (s_asg (e_c (.int 4938)) (g_name 1))
    (s_seq (s_for (i_any (e_sl (e_var 0) o_none (o_some (e_c (.int 63))))) (g_name 2) (s_asg (e_op f_mod (e_bi f_int (a_cons (e_op f_add (e_op f_add (e_op f_mul (e_var 1) (e_c (.int 44021))) (e_op f_mul (e_op f_mod (e_bi f_int (a_cons (e_var 2) a_nil)) (e_c (.int 1000003))) (e_c (.int 853)))) (e_c (.int 23))) a_nil)) (e_c (.int 2147483587))) (g_name 1)))
    (s_ret (e_lstO (a_cons (e_bi f_list (a_cons (e_sl (e_var 0) o_none (o_some (e_c (.int 63)))) a_nil)) (a_cons (e_c (.int 0)) (a_cons (e_c (.int 0)) (a_cons (e_var 1) (a_cons (e_c (.int 0)) a_nil)))))))))
noncomputable def m__law_open : List VD → Mem → Res VD := fnM 3 b__law_open
noncomputable def b__law_draw : Sx :=
    (s_seq (s_seti (e_op f_add (e_op f_ix (e_var 0) (e_c (.int 4))) (e_c (.int 1))) (e_var 0) (e_c (.int 4)))
    (s_seq (s_if (e_andT (e_asB (e_op f_eq (e_op f_ix (e_var 0) (e_c (.int 2))) (e_c (.int 0)))) (e_asB (e_op f_lt (e_op f_ix (e_var 0) (e_c (.int 1))) (e_bi f_len (a_cons (e_op f_ix (e_var 0) (e_c (.int 0))) a_nil))))) (s_seq (s_asg (e_op f_ix (e_op f_ix (e_var 0) (e_c (.int 0))) (e_op f_ix (e_var 0) (e_c (.int 1)))) (g_name 3))
    (s_seq (s_seti (e_op f_add (e_op f_ix (e_var 0) (e_c (.int 1))) (e_c (.int 1))) (e_var 0) (e_c (.int 1)))
    (s_if (e_asB (e_op f_ge (e_bi f_abs (a_cons (e_var 3) a_nil)) (e_op f_pow (e_c (.int 10)) (e_c (.int 18))))) (s_seti (e_bi f_abs (a_cons (e_var 3) a_nil)) (e_var 0) (e_c (.int 2))) (s_seti (e_op f_mod (e_bi f_int (a_cons (e_op f_add (e_op f_add (e_op f_mul (e_op f_ix (e_var 0) (e_c (.int 3))) (e_c (.int 38113))) (e_op f_mul (e_op f_mod (e_bi f_int (a_cons (e_var 3) a_nil)) (e_c (.int 1000003))) (e_c (.int 691)))) (e_c (.int 47))) a_nil)) (e_c (.int 2147483629))) (e_var 0) (e_c (.int 3)))))) s_skip)
    (s_seq (s_if (e_asB (e_op f_gt (e_op f_ix (e_var 0) (e_c (.int 2))) (e_c (.int 0)))) (s_seq (s_asg (e_op f_mod (e_bi f_int (a_cons (e_op f_ix (e_var 0) (e_c (.int 2))) a_nil)) (e_var 1)) (g_name 4))
    (s_seq (s_seti (e_op f_fdiv (e_op f_ix (e_var 0) (e_c (.int 2))) (e_var 1)) (e_var 0) (e_c (.int 2)))
    (s_ret (e_var 4)))) s_skip)
    (s_seq (s_asg (e_op f_mod (e_bi f_int (a_cons (e_op f_add (e_op f_mul (e_op f_ix (e_var 0) (e_c (.int 3))) (e_op f_ix (e_var 0) (e_c (.int 3)))) (e_op f_mul (e_op f_ix (e_var 0) (e_c (.int 4))) (e_c (.int 9133)))) a_nil)) (e_c (.int 2147483549))) (g_name 2))
    (s_seq (s_seti (e_op f_mod (e_bi f_int (a_cons (e_op f_add (e_op f_add (e_op f_mul (e_var 2) (e_c (.int 16033))) (e_op f_mul (e_op f_ix (e_var 0) (e_c (.int 3))) (e_c (.int 51043)))) (e_c (.int 60029))) a_nil)) (e_c (.int 2147483629))) (e_var 0) (e_c (.int 3)))
    (s_ret (e_op f_mod (e_bi f_int (a_cons (e_op f_fdiv (e_op f_ix (e_var 0) (e_c (.int 3))) (e_c (.int 64))) a_nil)) (e_var 1))))))))
noncomputable def m__law_draw : List VD → Mem → Res VD := fnM 5 b__law_draw
noncomputable def b__law_of : Sx :=
    (s_ret (e_op f_ix (e_var 1) (e_call 2 m__law_draw (a_cons (e_var 0) (a_cons (e_bi f_len (a_cons (e_var 1) a_nil)) a_nil)))))
noncomputable def m__law_of : List VD → Mem → Res VD := fnM 2 b__law_of
noncomputable def b__law_same (rec : List VD → Mem → Res VD) : Sx :=
    (s_seq (s_if (e_orT (e_asB (e_op (f_is false) (e_var 1) (e_c .non))) (e_asB (e_op (f_is false) (e_var 0) (e_c .non)))) (s_ret (e_and (e_op (f_is false) (e_var 1) (e_c .non)) (e_op (f_is false) (e_var 0) (e_c .non)))) s_skip)
    (s_seq (s_if (e_truth (e_isi2 .list .tuple (e_var 1))) (s_seq (s_if (e_asB (e_op f_ne (e_isi .list (e_var 0)) (e_isi .list (e_var 1)))) (s_ret (e_c (.bl false))) s_skip)
    (s_seq (s_if (e_orT (e_asB (e_op f_ne (e_isi .tuple (e_var 0)) (e_isi .tuple (e_var 1)))) (e_asB (e_op f_ne (e_bi f_len (a_cons (e_var 0) a_nil)) (e_bi f_len (a_cons (e_var 1) a_nil))))) (s_ret (e_c (.bl false))) s_skip)
    (s_ret (e_bi (f_bls fun bs => bs.all id) (a_cons (e_comp [2, 3] (i_zip (a_cons (e_var 0) (a_cons (e_var 1) a_nil))) (g_tup 2 (g_cons (g_name 2) (g_cons (g_name 3) g_nil))) e_yes (e_call 2 rec (a_cons (e_var 2) (a_cons (e_var 3) a_nil)))) a_nil))))) s_skip)
    (s_seq (s_if (e_truth (e_isi2 .list .tuple (e_var 0))) (s_ret (e_c (.bl false))) s_skip)
    (s_seq (s_if (e_asB (e_op f_ne (e_isi .bool (e_var 0)) (e_isi .bool (e_var 1)))) (s_ret (e_c (.bl false))) s_skip)
    (s_seq (s_if (e_asB (e_op f_ne (e_isi .int (e_var 0)) (e_isi .int (e_var 1)))) (s_ret (e_c (.bl false))) s_skip)
    (s_ret (e_and (e_op f_eq (e_isi .str (e_var 0)) (e_isi .str (e_var 1))) (e_op f_eq (e_var 0) (e_var 1)))))))))
noncomputable def m__law_same : Nat → List VD → Mem → Res VD
  | 0 => fun _ _ => .fail
  | n + 1 => fnM 4 (b__law_same (m__law_same n))
noncomputable def b__law_letters : Sx :=
    (s_seq (s_asg (e_tup (a_cons (e_c (.str [])) (a_cons (e_c (.int 0)) a_nil))) (g_tup 2 (g_cons (g_name 4) (g_cons (g_name 5) g_nil))))
    (s_seq (s_for (i_rng1 (a_cons (e_var 2) a_nil)) (g_name 3) (s_seq (s_asg (e_op f_add (e_var 5) (e_call 2 m__law_draw (a_cons (e_var 0) (a_cons (e_op f_sub (e_op f_sub (e_bi f_len (a_cons (e_var 1) a_nil)) (e_var 5)) (e_op f_sub (e_op f_sub (e_var 2) (e_c (.int 1))) (e_var 3))) a_nil)))) (g_name 6))
    (s_par 4 5 (a_cons (e_op f_add (e_var 4) (e_op f_ix (e_var 1) (e_var 6))) (a_cons (e_op f_add (e_var 6) (e_c (.int 1))) a_nil)))))
    (s_ret (e_var 4))))
noncomputable def m__law_letters : List VD → Mem → Res VD := fnM 7 b__law_letters
noncomputable def b__law_some_kinds : Sx :=
    (s_ret (e_call 3 m__law_letters (a_cons (e_var 0) (a_cons (e_c (.str [97, 98, 99, 100, 101, 102, 103, 104, 105, 106, 107, 108, 109, 110, 111, 112, 113, 114, 115, 116, 117, 118, 119, 120, 121, 122])) (a_cons (e_op f_add (e_c (.int 1)) (e_call 2 m__law_draw (a_cons (e_var 0) (a_cons (e_var 1) a_nil)))) a_nil)))))
noncomputable def m__law_some_kinds : List VD → Mem → Res VD := fnM 2 b__law_some_kinds
noncomputable def b_is_number : Sx :=
    (s_ret (e_and (e_isi .int (e_var 0)) (e_and (e_not (e_isi .bool (e_var 0))) (e_chain f_le f_le (e_var 1) (e_var 0) (e_var 2)))))
noncomputable def m_is_number : List VD → Mem → Res VD := fnM 3 b_is_number
noncomputable def b_is_rising : Sx :=
    (s_seq (s_if (e_orT (e_notT (e_truth (e_isi .str (e_var 0)))) (e_notT (e_asB (e_chain f_le f_le (e_c (.int 1)) (e_bi f_len (a_cons (e_var 0) a_nil)) (e_var 2))))) (s_ret (e_c (.bl false))) s_skip)
    (s_ret (e_and (e_bi (f_bls fun bs => bs.all id) (a_cons (e_comp [3] (i_any (e_var 0)) (g_name 3) e_yes (e_op f_in (e_var 3) (e_var 1))) a_nil)) (e_op f_eq (e_bi f_list (a_cons (e_var 0) a_nil)) (e_bi f_srt (a_cons (e_var 0) a_nil))))))
noncomputable def m_is_rising : List VD → Mem → Res VD := fnM 4 b_is_rising
noncomputable def b_is_kinds : Sx :=
    (s_ret (e_call 3 m_is_rising (a_cons (e_var 0) (a_cons (e_c (.str [97, 98, 99, 100, 101, 102, 103, 104, 105, 106, 107, 108, 109, 110, 111, 112, 113, 114, 115, 116, 117, 118, 119, 120, 121, 122])) (a_cons (e_c (.int 6)) a_nil)))))
noncomputable def m_is_kinds : List VD → Mem → Res VD := fnM 1 b_is_kinds
noncomputable def b_is_comers : Sx :=
    (s_ret (e_call 3 m_is_rising (a_cons (e_var 0) (a_cons (e_c (.str [65, 66, 67, 68, 69, 70, 71, 72, 73, 74, 75, 76, 77, 78, 79, 80, 81, 82, 83, 84, 85, 86, 87, 88, 89, 90])) (a_cons (e_c (.int 4)) a_nil)))))
noncomputable def m_is_comers : List VD → Mem → Res VD := fnM 1 b_is_comers
noncomputable def b__law_some_comers : Sx :=
    (s_ret (e_call 3 m__law_letters (a_cons (e_var 0) (a_cons (e_c (.str [65, 66, 67, 68, 69, 70, 71, 72, 73, 74, 75, 76, 77, 78, 79, 80, 81, 82, 83, 84, 85, 86, 87, 88, 89, 90])) (a_cons (e_op f_add (e_c (.int 1)) (e_call 2 m__law_draw (a_cons (e_var 0) (a_cons (e_var 1) a_nil)))) a_nil)))))
noncomputable def m__law_some_comers : List VD → Mem → Res VD := fnM 2 b__law_some_comers
noncomputable def b__law_part : Sx :=
    (s_seq (s_asg (e_m1 f_join (e_c (.str [])) (e_comp [3] (i_any (e_var 1)) (g_name 3) (e_asB (e_op f_eq (e_call 2 m__law_draw (a_cons (e_var 0) (a_cons (e_c (.int 2)) a_nil))) (e_c (.int 0)))) (e_var 3))) (g_name 2))
    (s_ret (e_if (e_andT (e_asB (e_op f_ne (e_var 2) (e_c (.str [])))) (e_asB (e_op f_gt (e_call 2 m__law_draw (a_cons (e_var 0) (a_cons (e_c (.int 3)) a_nil))) (e_c (.int 0))))) (e_var 2) (e_c (.str [46])))))
noncomputable def m__law_part : List VD → Mem → Res VD := fnM 4 b__law_part
noncomputable def b__law_string : Sx :=
    (s_ret (e_m1 f_join (e_c (.str [])) (e_comp [3] (i_rng1 (a_cons (e_call 2 m__law_draw (a_cons (e_var 0) (a_cons (e_op f_add (e_var 2) (e_c (.int 1))) a_nil))) a_nil)) (g_name 3) e_yes (e_call 2 m__law_of (a_cons (e_var 0) (a_cons (e_var 1) a_nil))))))
noncomputable def m__law_string : List VD → Mem → Res VD := fnM 4 b__law_string
noncomputable def b__law_line : Sx :=
    (s_seq (s_par3 4 5 6 (a_cons (e_call 2 m__law_part (a_cons (e_var 0) (a_cons (e_op f_add (e_c (.str [60])) (e_var 1)) a_nil))) (a_cons (e_call 2 m__law_part (a_cons (e_var 0) (a_cons (e_var 2) a_nil))) (a_cons (e_call 2 m__law_part (a_cons (e_var 0) (a_cons (e_op f_add (e_c (.str [62])) (e_var 1)) a_nil))) a_nil))))
    (s_ret (e_tup (a_cons (e_var 4) (a_cons (e_var 5) (a_cons (e_var 6) (a_cons (e_call 3 m__law_string (a_cons (e_var 0) (a_cons (e_var 1) (a_cons (e_var 3) a_nil)))) a_nil)))))))
noncomputable def m__law_line : List VD → Mem → Res VD := fnM 7 b__law_line
noncomputable def b__law_some_book : Sx :=
    (s_seq (s_asg (e_tup (a_cons (e_call 2 m__law_some_kinds (a_cons (e_var 0) (a_cons (e_op f_ix (e_var 1) (e_c (.int 0))) a_nil))) (a_cons (e_call 2 m__law_some_comers (a_cons (e_var 0) (a_cons (e_op f_ix (e_var 1) (e_c (.int 1))) a_nil))) a_nil))) (g_tup 2 (g_cons (g_name 3) (g_cons (g_name 4) g_nil))))
    (s_seq (s_asg (e_compN [5] (i_rng1 (a_cons (e_call 2 m__law_draw (a_cons (e_var 0) (a_cons (e_op f_add (e_op f_ix (e_var 1) (e_c (.int 2))) (e_c (.int 1))) a_nil))) a_nil)) (g_name 5) e_yes (e_call 4 m__law_line (a_cons (e_var 0) (a_cons (e_var 3) (a_cons (e_var 4) (a_cons (e_op f_ix (e_var 1) (e_c (.int 3))) a_nil)))))) (g_name 2))
    (s_seq (s_if (e_andT (e_asB (e_op f_gt (e_call 2 m__law_draw (a_cons (e_var 0) (a_cons (e_c (.int 3)) a_nil))) (e_c (.int 0)))) (e_asB (e_op f_lt (e_bi f_len (a_cons (e_var 2) a_nil)) (e_op f_ix (e_var 1) (e_c (.int 2)))))) (s_expr (e_app (e_var 2) (e_tup (a_cons (e_c (.str [46])) (a_cons (e_c (.str [46])) (a_cons (e_c (.str [46])) (a_cons (e_call 2 m__law_of (a_cons (e_var 0) (a_cons (e_var 3) a_nil))) a_nil))))))) s_skip)
    (s_frz 2 (s_ret (e_lst (a_cons (e_var 3) (a_cons (e_var 4) (a_cons (e_var 2) a_nil)))))))))
noncomputable def m__law_some_book : List VD → Mem → Res VD := fnM 6 b__law_some_book
noncomputable def b__law_line_text : Sx :=
    (s_ret (e_m1 f_join (e_c (.str [32])) (e_lst (a_cons (e_op f_ix (e_var 0) (e_c (.int 0))) (a_cons (e_op f_ix (e_var 0) (e_c (.int 1))) (a_cons (e_op f_ix (e_var 0) (e_c (.int 2))) (a_cons (e_if (e_asB (e_op f_ne (e_op f_ix (e_var 0) (e_c (.int 3))) (e_c (.str [])))) (e_op f_ix (e_var 0) (e_c (.int 3))) (e_c (.str [45]))) a_nil)))))))
noncomputable def m__law_line_text : List VD → Mem → Res VD := fnM 1 b__law_line_text
noncomputable def b__law_book_text : Sx :=
    (s_ret (e_m1 f_join (e_c (.str [10])) (e_op f_add (e_lst (a_cons (e_op f_add (e_op f_add (e_op f_ix (e_var 0) (e_c (.int 0))) (e_c (.str [32]))) (e_op f_ix (e_var 0) (e_c (.int 1)))) a_nil)) (e_comp [1] (i_any (e_op f_ix (e_var 0) (e_c (.int 2)))) (g_name 1) e_yes (e_call 1 m__law_line_text (a_cons (e_var 1) a_nil))))))
noncomputable def m__law_book_text : List VD → Mem → Res VD := fnM 2 b__law_book_text
noncomputable def b_line_of : Sx :=
    (s_seq (s_asg (e_m1 f_split (e_var 0) (e_c (.str [32]))) (g_name 1))
    (s_seq (s_if (e_orT (e_asB (e_op f_ne (e_bi f_len (a_cons (e_var 1) a_nil)) (e_c (.int 4)))) (e_asB (e_op f_in (e_c (.str [])) (e_var 1)))) (s_ret (e_c .non)) s_skip)
    (s_ret (e_tup (a_star (e_sl (e_var 1) o_none (o_some (e_c (.int 3)))) (a_cons (e_if (e_asB (e_op f_eq (e_op f_ix (e_var 1) (e_c (.int 3))) (e_c (.str [45])))) (e_c (.str [])) (e_op f_ix (e_var 1) (e_c (.int 3)))) a_nil))))))
noncomputable def m_line_of : List VD → Mem → Res VD := fnM 2 b_line_of
noncomputable def b_is_part : Sx :=
    (s_ret (e_and (e_isi .str (e_var 0)) (e_or (e_op f_eq (e_var 0) (e_c (.str [46]))) (e_call 3 m_is_rising (a_cons (e_var 0) (a_cons (e_var 1) (a_cons (e_bi f_len (a_cons (e_var 1) a_nil)) a_nil)))))))
noncomputable def m_is_part : List VD → Mem → Res VD := fnM 2 b_is_part
noncomputable def b_is_line : Sx :=
    (s_seq (s_if (e_orT (e_notT (e_truth (e_isi .tuple (e_var 0)))) (e_orT (e_asB (e_op f_ne (e_bi f_len (a_cons (e_var 0) a_nil)) (e_c (.int 4)))) (e_notT (e_truth (e_call 2 m_is_part (a_cons (e_op f_ix (e_var 0) (e_c (.int 0))) (a_cons (e_op f_add (e_c (.str [60])) (e_var 1)) a_nil))))))) (s_ret (e_c (.bl false))) s_skip)
    (s_ret (e_and (e_call 2 m_is_part (a_cons (e_op f_ix (e_var 0) (e_c (.int 1))) (a_cons (e_var 2) a_nil))) (e_and (e_call 2 m_is_part (a_cons (e_op f_ix (e_var 0) (e_c (.int 2))) (a_cons (e_op f_add (e_c (.str [62])) (e_var 1)) a_nil))) (e_call 2 m_is_word (a_cons (e_op f_ix (e_var 0) (e_c (.int 3))) (a_cons (e_var 1) a_nil)))))))
noncomputable def m_is_line : List VD → Mem → Res VD := fnM 3 b_is_line
noncomputable def b_Book___init__ : Sx :=
    (s_seq (s_if (e_notT (e_truth (e_call 1 m_is_kinds (a_cons (e_var 1) a_nil)))) s_fail s_skip)
    (s_seq (s_if (e_notT (e_truth (e_call 1 m_is_comers (a_cons (e_var 2) a_nil)))) s_fail s_skip)
    (s_seq (s_for (i_enumA (a_cons (e_var 3) a_nil)) (g_tup 2 (g_cons (g_name 4) (g_cons (g_name 5) g_nil))) (s_if (e_orT (e_asB (e_op f_ge (e_var 4) (e_c (.int 8)))) (e_notT (e_truth (e_call 3 m_is_line (a_cons (e_var 5) (a_cons (e_var 1) (a_cons (e_var 2) a_nil))))))) s_fail s_skip))
    (s_seq (s_fld (tb 0 0) (e_var 1) (e_var 0))
    (s_seq (s_fld (tb 0 1) (e_var 2) (e_var 0))
    (s_fld (tb 0 2) (e_bi f_list (a_cons (e_var 3) a_nil)) (e_var 0)))))))
noncomputable def m_Book___init__ : List VD → Mem → Res VD := fnM 6 b_Book___init__
noncomputable def p_Book___init__ : List VD → Mem → Res VD := arS 3 m_Book___init__
noncomputable def b_Book_read : Sx :=
    (s_seq (s_asg (e_if (e_truth (e_isi .str (e_var 0))) (e_m1 f_split (e_var 0) (e_c (.str [10]))) (e_lst (a_cons (e_c (.str [])) a_nil))) (g_name 1))
    (s_seq (s_asg (e_m1 f_split (e_op f_ix (e_var 1) (e_c (.int 0))) (e_c (.str [32]))) (g_name 2))
    (s_seq (s_if (e_orT (e_asB (e_op f_ne (e_bi f_len (a_cons (e_var 2) a_nil)) (e_c (.int 2)))) (e_orT (e_notT (e_truth (e_call 1 m_is_kinds (a_cons (e_op f_ix (e_var 2) (e_c (.int 0))) a_nil)))) (e_notT (e_truth (e_call 1 m_is_comers (a_cons (e_op f_ix (e_var 2) (e_c (.int 1))) a_nil)))))) s_fail s_skip)
    (s_seq (s_asg (e_lstO a_nil) (g_name 3))
    (s_seq (s_for (i_enumA (a_cons (e_var 1) a_nil)) (g_tup 2 (g_cons (g_name 4) (g_cons (g_name 5) g_nil))) (s_if (e_asB (e_op f_gt (e_var 4) (e_c (.int 0)))) (s_seq (s_asg (e_call 1 m_line_of (a_cons (e_var 5) a_nil)) (g_name 6))
    (s_seq (s_if (e_orT (e_asB (e_op f_gt (e_var 4) (e_c (.int 8)))) (e_notT (e_truth (e_call 3 m_is_line (a_cons (e_var 6) (a_cons (e_op f_ix (e_var 2) (e_c (.int 0))) (a_cons (e_op f_ix (e_var 2) (e_c (.int 1))) a_nil))))))) s_fail s_skip)
    (s_expr (e_app (e_var 3) (e_var 6))))) s_skip))
    (s_ret (e_make 0 3 p_Book___init__ (a_cons (e_op f_ix (e_var 2) (e_c (.int 0))) (a_cons (e_op f_ix (e_var 2) (e_c (.int 1))) (a_star (e_var 3) a_nil))))))))))
noncomputable def m_Book_read : List VD → Mem → Res VD := fnM 7 b_Book_read
noncomputable def b_Book_text : Sx :=
    (s_seq (s_asg (e_comp [2] (i_any (e_fld (tb 0 2) (e_var 0))) (g_name 2) e_yes (e_m1 f_join (e_c (.str [32])) (e_lst (a_star (e_sl (e_var 2) o_none (o_some (e_c (.int 3)))) (a_cons (e_if (e_asB (e_op f_ne (e_op f_ix (e_var 2) (e_c (.int 3))) (e_c (.str [])))) (e_op f_ix (e_var 2) (e_c (.int 3))) (e_c (.str [45]))) a_nil))))) (g_name 1))
    (s_ret (e_m1 f_join (e_c (.str [10])) (e_lst (a_cons (e_fstr (j_cons (e_fmt (e_fld (tb 0 0) (e_var 0))) (j_cons (e_c (.str [32])) (j_cons (e_fmt (e_fld (tb 0 1) (e_var 0))) j_nil)))) (a_star (e_var 1) a_nil))))))
noncomputable def m_Book_text : List VD → Mem → Res VD := fnM 3 b_Book_text
noncomputable def b_Book___len__ : Sx :=
    (s_ret (e_bi f_len (a_cons (e_fld (tb 0 2) (e_var 0)) a_nil)))
noncomputable def m_Book___len__ : List VD → Mem → Res VD := fnM 1 b_Book___len__
noncomputable def b_Book_lines : Sx :=
    (s_ret (e_bi f_list (a_cons (e_fld (tb 0 2) (e_var 0)) a_nil)))
noncomputable def m_Book_lines : List VD → Mem → Res VD := fnM 1 b_Book_lines
noncomputable def b_Book___eq__ : Sx :=
    (s_seq (s_if (e_notT (e_truth (e_isC 0 (e_var 1)))) (s_ret (e_c (.bl false))) s_skip)
    (s_ret (e_and (e_op f_eq (e_fld (tb 0 0) (e_var 0)) (e_fld (tb 0 0) (e_var 1))) (e_and (e_op f_eq (e_fld (tb 0 1) (e_var 0)) (e_fld (tb 0 1) (e_var 1))) (e_op f_eq (e_fld (tb 0 2) (e_var 0)) (e_meth 0 (ar 1 m_Book_lines) (e_var 1) a_nil))))))
noncomputable def m_Book___eq__ : List VD → Mem → Res VD := fnM 2 b_Book___eq__
noncomputable def b__law_book : Sx :=
    (s_ret (e_callP (ar 1 m_Book_read) (a_cons (e_call 1 m__law_book_text (a_cons (e_var 0) a_nil)) a_nil)))
noncomputable def m__law_book : List VD → Mem → Res VD := fnM 1 b__law_book
noncomputable def b_all_gaps : Sx :=
    (s_ret (e_comp2 finD [1, 2] [2] (i_any (e_op f_add (e_c (.str [60])) (e_var 0))) (g_name 1) e_yes (i_any (e_op f_add (e_var 0) (e_c (.str [62])))) (g_name 2) e_yes (e_op f_add (e_var 1) (e_var 2))))
noncomputable def m_all_gaps : List VD → Mem → Res VD := fnM 3 b_all_gaps
noncomputable def b_is_one : Sx :=
    (s_ret (e_and (e_isi .str (e_var 0)) (e_and (e_op f_eq (e_bi f_len (a_cons (e_var 0) a_nil)) (e_c (.int 1))) (e_op f_in (e_var 0) (e_var 1)))))
noncomputable def m_is_one : List VD → Mem → Res VD := fnM 2 b_is_one
noncomputable def b_takes : Sx :=
    (s_ret (e_or (e_op f_eq (e_var 0) (e_c (.str [46]))) (e_op f_in (e_var 1) (e_var 0))))
noncomputable def m_takes : List VD → Mem → Res VD := fnM 2 b_takes
noncomputable def b_Book_line_at : Sx :=
    (s_seq (s_if (e_notT (e_truth (e_call 2 m_is_gap (a_cons (e_var 1) (a_cons (e_fld (tb 0 0) (e_var 0)) a_nil))))) s_fail s_skip)
    (s_seq (s_if (e_notT (e_truth (e_call 2 m_is_one (a_cons (e_var 2) (a_cons (e_fld (tb 0 1) (e_var 0)) a_nil))))) s_fail s_skip)
    (s_seq (s_for (i_enumA (a_cons (e_fld (tb 0 2) (e_var 0)) a_nil)) (g_tup 2 (g_cons (g_name 3) (g_cons (g_name 4) g_nil))) (s_if (e_andT (e_truth (e_call 2 m_takes (a_cons (e_op f_ix (e_var 4) (e_c (.int 0))) (a_cons (e_op f_ix (e_var 1) (e_c (.int 0))) a_nil)))) (e_andT (e_truth (e_call 2 m_takes (a_cons (e_op f_ix (e_var 4) (e_c (.int 1))) (a_cons (e_var 2) a_nil)))) (e_truth (e_call 2 m_takes (a_cons (e_op f_ix (e_var 4) (e_c (.int 2))) (a_cons (e_op f_ix (e_var 1) (e_c (.int 1))) a_nil)))))) (s_ret (e_var 3)) s_skip))
    (s_ret (e_c .non)))))
noncomputable def m_Book_line_at : List VD → Mem → Res VD := fnM 5 b_Book_line_at
noncomputable def b_Book_idle : Sx :=
    (s_seq (s_asg (e_comp2 finD [2, 3] [3] (i_any (e_call 1 m_all_gaps (a_cons (e_fld (tb 0 0) (e_var 0)) a_nil))) (g_name 2) e_yes (i_any (e_fld (tb 0 1) (e_var 0))) (g_name 3) e_yes (e_meth 0 (ar 3 m_Book_line_at) (e_var 0) (a_cons (e_var 2) (a_cons (e_var 3) a_nil)))) (g_name 1))
    (s_ret (e_comp [4] (i_rng1 (a_cons (e_bi f_len (a_cons (e_fld (tb 0 2) (e_var 0)) a_nil)) a_nil)) (g_name 4) (e_asB (e_op f_ni (e_var 4) (e_var 1))) (e_var 4))))
noncomputable def m_Book_idle : List VD → Mem → Res VD := fnM 5 b_Book_idle
noncomputable def b_Book_word : Sx :=
    (s_seq (s_asg (e_meth 0 (ar 3 m_Book_line_at) (e_var 0) (a_cons (e_var 1) (a_cons (e_var 2) a_nil))) (g_name 3))
    (s_ret (e_if (e_asB (e_op (f_is false) (e_var 3) (e_c .non))) (e_c (.str [])) (e_op f_ix (e_op f_ix (e_fld (tb 0 2) (e_var 0)) (e_var 3)) (e_c (.int 3))))))
noncomputable def m_Book_word : List VD → Mem → Res VD := fnM 4 b_Book_word
noncomputable def b__law_fits : Sx :=
    (s_ret (e_or (e_op f_eq (e_var 0) (e_c (.str [46]))) (e_op f_in (e_var 1) (e_var 0))))
noncomputable def m__law_fits : List VD → Mem → Res VD := fnM 2 b__law_fits
noncomputable def b__law_line_at : Sx :=
    (s_seq (s_for (i_enumA (a_cons (e_op f_ix (e_var 0) (e_c (.int 2))) a_nil)) (g_tup 2 (g_cons (g_name 3) (g_cons (g_name 4) g_nil))) (s_seq (s_asg (e_lst (a_cons (e_call 2 m__law_fits (a_cons (e_op f_ix (e_var 4) (e_c (.int 0))) (a_cons (e_op f_ix (e_var 1) (e_c (.int 0))) a_nil))) (a_cons (e_call 2 m__law_fits (a_cons (e_op f_ix (e_var 4) (e_c (.int 1))) (a_cons (e_var 2) a_nil))) (a_cons (e_call 2 m__law_fits (a_cons (e_op f_ix (e_var 4) (e_c (.int 2))) (a_cons (e_op f_ix (e_var 1) (e_c (.int 1))) a_nil))) a_nil)))) (g_name 5))
    (s_if (e_truth (e_bi (f_bls fun bs => bs.all id) (a_cons (e_var 5) a_nil))) (s_ret (e_var 3)) s_skip)))
    (s_ret (e_c .non)))
noncomputable def m__law_line_at : List VD → Mem → Res VD := fnM 6 b__law_line_at
noncomputable def b__law_all_gaps : Sx :=
    (s_seq (s_asg (e_lst a_nil) (g_name 1))
    (s_seq (s_for (i_any (e_op f_add (e_c (.str [60])) (e_var 0))) (g_name 2) (s_asg (e_op f_add (e_var 1) (e_comp [3] (i_any (e_op f_add (e_var 0) (e_c (.str [62])))) (g_name 3) e_yes (e_op f_add (e_var 2) (e_var 3)))) (g_name 1)))
    (s_ret (e_var 1))))
noncomputable def m__law_all_gaps : List VD → Mem → Res VD := fnM 4 b__law_all_gaps
noncomputable def b__law_parts : Sx :=
    (s_seq (s_asg (e_op f_add (e_op f_add (e_op f_ix (e_var 0) (e_c (.int 0))) (e_var 1)) (e_op f_ix (e_var 0) (e_c (.int 1)))) (g_name 2))
    (s_ret (e_comp [3] (i_rng1 (a_cons (e_op f_add (e_bi f_len (a_cons (e_var 1) a_nil)) (e_c (.int 1))) a_nil)) (g_name 3) e_yes (e_sl (e_var 2) (o_some (e_var 3)) (o_some (e_op f_add (e_var 3) (e_c (.int 2))))))))
noncomputable def m__law_parts : List VD → Mem → Res VD := fnM 4 b__law_parts
noncomputable def b__law_row_gaps : Sx :=
    (s_ret (e_call 2 m__law_parts (a_cons (e_c (.str [60, 62])) (a_cons (e_var 0) a_nil))))
noncomputable def m__law_row_gaps : List VD → Mem → Res VD := fnM 1 b__law_row_gaps
noncomputable def b__law_word : Sx :=
    (s_seq (s_asg (e_call 3 m__law_line_at (a_cons (e_var 0) (a_cons (e_var 1) (a_cons (e_var 2) a_nil)))) (g_name 3))
    (s_ret (e_if (e_asB (e_op (f_is false) (e_var 3) (e_c .non))) (e_c (.str [])) (e_op f_ix (e_op f_ix (e_op f_ix (e_var 0) (e_c (.int 2))) (e_var 3)) (e_c (.int 3))))))
noncomputable def m__law_word : List VD → Mem → Res VD := fnM 4 b__law_word
noncomputable def b__law_behind : Sx :=
    (s_seq (s_asg (e_op f_ix (e_call 1 m__law_row_gaps (a_cons (e_var 1) a_nil)) (e_var 2)) (g_name 4))
    (s_ret (e_op f_add (e_op f_add (e_sl (e_var 1) o_none (o_some (e_var 2))) (e_call 3 m__law_word (a_cons (e_var 0) (a_cons (e_var 4) (a_cons (e_var 3) a_nil))))) (e_sl (e_var 1) (o_some (e_var 2)) o_none))))
noncomputable def m__law_behind : List VD → Mem → Res VD := fnM 5 b__law_behind
noncomputable def b__law_some_history : Sx :=
    (s_seq (s_par 5 6 (a_cons (e_lstO a_nil) (a_cons (e_var 2) a_nil)))
    (s_seq (s_for (i_rng1 (a_cons (e_call 2 m__law_draw (a_cons (e_var 0) (a_cons (e_op f_add (e_op f_ix (e_var 3) (e_c (.int 0))) (e_c (.int 1))) a_nil))) a_nil)) (g_name 4) (s_seq (s_asg (e_tup (a_cons (e_call 2 m__law_draw (a_cons (e_var 0) (a_cons (e_op f_add (e_bi f_len (a_cons (e_var 6) a_nil)) (e_c (.int 1))) a_nil))) (a_cons (e_call 2 m__law_of (a_cons (e_var 0) (a_cons (e_op f_ix (e_var 1) (e_c (.int 1))) a_nil))) a_nil))) (g_name 7))
    (s_seq (s_asg (e_call 4 m__law_behind (a_cons (e_var 1) (a_cons (e_var 6) (a_cons (e_op f_ix (e_var 7) (e_c (.int 0))) (a_cons (e_op f_ix (e_var 7) (e_c (.int 1))) a_nil))))) (g_name 8))
    (s_if (e_asB (e_op f_le (e_bi f_len (a_cons (e_var 8) a_nil)) (e_op f_ix (e_var 3) (e_c (.int 1))))) (s_seq (s_expr (e_app (e_var 5) (e_var 7)))
    (s_asg (e_var 8) (g_name 6))) s_skip))))
    (s_frz 5 (s_ret (e_tup (a_cons (e_var 5) (a_cons (e_var 6) a_nil)))))))
noncomputable def m__law_some_history : List VD → Mem → Res VD := fnM 9 b__law_some_history
noncomputable def b__law_play : Sx :=
    (s_seq (s_asg (e_var 1) (g_name 3))
    (s_seq (s_for (i_any (e_var 2)) (g_tup 2 (g_cons (g_name 4) (g_cons (g_name 5) g_nil))) (s_asg (e_call 4 m__law_behind (a_cons (e_var 0) (a_cons (e_var 3) (a_cons (e_var 4) (a_cons (e_var 5) a_nil))))) (g_name 3)))
    (s_ret (e_var 3))))
noncomputable def m__law_play : List VD → Mem → Res VD := fnM 6 b__law_play
noncomputable def b_check_row : Sx :=
    (s_if (e_notT (e_truth (e_call 2 m_is_row (a_cons (e_var 1) (a_cons (e_fld (tb 0 0) (e_var 0)) a_nil))))) s_fail s_skip)
noncomputable def m_check_row : List VD → Mem → Res VD := fnM 2 b_check_row
noncomputable def b_is_step : Sx :=
    (s_seq (s_if (e_orT (e_notT (e_truth (e_isi .tuple (e_var 0)))) (e_asB (e_op f_ne (e_bi f_len (a_cons (e_var 0) a_nil)) (e_c (.int 2))))) (s_ret (e_c (.bl false))) s_skip)
    (s_ret (e_and (e_call 3 m_is_number (a_cons (e_op f_ix (e_var 0) (e_c (.int 0))) (a_cons (e_c (.int 0)) (a_cons (e_var 2) a_nil)))) (e_call 2 m_is_one (a_cons (e_op f_ix (e_var 0) (e_c (.int 1))) (a_cons (e_fld (tb 0 1) (e_var 1)) a_nil))))))
noncomputable def m_is_step : List VD → Mem → Res VD := fnM 3 b_is_step
noncomputable def b_gap_at : Sx :=
    (s_seq (s_asg (e_op f_add (e_op f_add (e_c (.str [60])) (e_var 0)) (e_c (.str [62]))) (g_name 2))
    (s_ret (e_sl (e_var 2) (o_some (e_var 1)) (o_some (e_op f_add (e_var 1) (e_c (.int 2)))))))
noncomputable def m_gap_at : List VD → Mem → Res VD := fnM 3 b_gap_at
noncomputable def b_behind : Sx :=
    (s_ret (e_op f_add (e_op f_add (e_sl (e_var 1) o_none (o_some (e_var 2))) (e_meth 0 (ar 3 m_Book_word) (e_var 0) (a_cons (e_call 2 m_gap_at (a_cons (e_var 1) (a_cons (e_var 2) a_nil))) (a_cons (e_var 3) a_nil)))) (e_sl (e_var 1) (o_some (e_var 2)) o_none)))
noncomputable def m_behind : List VD → Mem → Res VD := fnM 4 b_behind
noncomputable def b_play : Sx :=
    (s_seq (s_expr (e_call 2 m_check_row (a_cons (e_var 0) (a_cons (e_var 1) a_nil))))
    (s_seq (s_if (e_notT (e_truth (e_isi2 .list .tuple (e_var 2)))) s_fail s_skip)
    (s_seq (s_asg (e_var 1) (g_name 3))
    (s_seq (s_for (i_enumA (a_cons (e_var 2) a_nil)) (g_tup 2 (g_cons (g_name 4) (g_cons (g_name 5) g_nil))) (s_seq (s_if (e_notT (e_truth (e_call 3 m_is_step (a_cons (e_var 5) (a_cons (e_var 0) (a_cons (e_bi f_len (a_cons (e_var 3) a_nil)) a_nil)))))) s_fail s_skip)
    (s_asg (e_call 4 m_behind (a_cons (e_var 0) (a_cons (e_var 3) (a_cons (e_op f_ix (e_var 5) (e_c (.int 0))) (a_cons (e_op f_ix (e_var 5) (e_c (.int 1))) a_nil))))) (g_name 3))))
    (s_ret (e_var 3))))))
noncomputable def m_play : List VD → Mem → Res VD := fnM 6 b_play
noncomputable def b_row_gaps : Sx :=
    (s_ret (e_comp [1] (i_rng1 (a_cons (e_op f_add (e_bi f_len (a_cons (e_var 0) a_nil)) (e_c (.int 1))) a_nil)) (g_name 1) e_yes (e_call 2 m_gap_at (a_cons (e_var 0) (a_cons (e_var 1) a_nil)))))
noncomputable def m_row_gaps : List VD → Mem → Res VD := fnM 2 b_row_gaps
noncomputable def b_gaps_of : Sx :=
    (s_seq (s_expr (e_call 2 m_check_row (a_cons (e_var 0) (a_cons (e_var 1) a_nil))))
    (s_ret (e_call 1 m_row_gaps (a_cons (e_var 1) a_nil))))
noncomputable def m_gaps_of : List VD → Mem → Res VD := fnM 2 b_gaps_of
noncomputable def b__law_mixed : Sx :=
    (s_seq (s_asg (e_lstO a_nil) (g_name 2))
    (s_seq (s_for (i_any (e_var 1)) (g_name 3) (s_expr (e_ins (e_var 2) (a_cons (e_call 2 m__law_draw (a_cons (e_var 0) (a_cons (e_op f_add (e_bi f_len (a_cons (e_var 2) a_nil)) (e_c (.int 1))) a_nil))) (a_cons (e_var 3) a_nil)))))
    (s_frz 2 (s_ret (e_var 2)))))
noncomputable def m__law_mixed : List VD → Mem → Res VD := fnM 4 b__law_mixed
noncomputable def b__law_beside : Sx :=
    (s_seq (s_asg (e_op f_mulO (e_lst (a_cons (e_c (.str [])) a_nil)) (e_bi f_len (a_cons (e_var 3) a_nil))) (g_name 5))
    (s_seq (s_for (i_any (e_var 4)) (g_name 6) (s_seq (s_par 8 9 (a_cons (e_op f_add (e_sl (e_var 1) o_none (o_some (e_var 2))) (e_m1 f_join (e_c (.str [])) (e_sl (e_var 5) o_none (o_some (e_var 6))))) (a_cons (e_op f_add (e_m1 f_join (e_c (.str [])) (e_sl (e_var 5) (o_some (e_op f_add (e_var 6) (e_c (.int 1)))) o_none)) (e_sl (e_var 1) (o_some (e_var 2)) o_none)) a_nil)))
    (s_seq (s_asg (e_op f_add (e_op f_ix (e_op f_add (e_c (.str [60])) (e_var 8)) (e_c (.int (-1)))) (e_op f_ix (e_op f_add (e_var 9) (e_c (.str [62]))) (e_c (.int 0)))) (g_name 7))
    (s_seti (e_call 3 m__law_word (a_cons (e_var 0) (a_cons (e_var 7) (a_cons (e_op f_ix (e_var 3) (e_var 6)) a_nil)))) (e_var 5) (e_var 6)))))
    (s_ret (e_op f_add (e_op f_add (e_sl (e_var 1) o_none (o_some (e_var 2))) (e_m1 f_join (e_c (.str [])) (e_var 5))) (e_sl (e_var 1) (o_some (e_var 2)) o_none)))))
noncomputable def m__law_beside : List VD → Mem → Res VD := fnM 10 b__law_beside
noncomputable def b_side_by_side : Sx :=
    (s_seq (s_expr (e_call 2 m_check_row (a_cons (e_var 0) (a_cons (e_var 1) a_nil))))
    (s_seq (s_if (e_notT (e_truth (e_call 3 m_is_number (a_cons (e_var 2) (a_cons (e_c (.int 0)) (a_cons (e_bi f_len (a_cons (e_var 1) a_nil)) a_nil)))))) s_fail s_skip)
    (s_seq (s_if (e_orT (e_notT (e_truth (e_isi .str (e_var 3)))) (e_orT (e_asB (e_op f_gt (e_bi f_len (a_cons (e_var 3) a_nil)) (e_c (.int 6)))) (e_notT (e_truth (e_bi (f_bls fun bs => bs.all id) (a_cons (e_comp [10] (i_any (e_var 3)) (g_name 10) e_yes (e_op f_in (e_var 10) (e_fld (tb 0 1) (e_var 0)))) a_nil)))))) s_fail s_skip)
    (s_seq (s_asg (e_bi f_len (a_cons (e_var 3) a_nil)) (g_name 5))
    (s_seq (s_if (e_orT (e_notT (e_truth (e_isi2 .list .tuple (e_var 4)))) (e_notT (e_truth (e_bi (f_bls fun bs => bs.all id) (a_cons (e_comp [7] (i_any (e_var 4)) (g_name 7) e_yes (e_call 3 m_is_number (a_cons (e_var 7) (a_cons (e_c (.int 0)) (a_cons (e_op f_sub (e_var 5) (e_c (.int 1))) a_nil))))) a_nil))))) s_fail s_skip)
    (s_seq (s_if (e_asB (e_op f_ne (e_bi f_sortI (a_cons (e_bi f_list (a_cons (e_var 4) a_nil)) a_nil)) (e_lrg (e_var 5)))) s_fail s_skip)
    (s_seq (s_asg (e_op f_mulO (e_lst (a_cons (e_c (.int 0)) a_nil)) (e_var 5)) (g_name 6))
    (s_seq (s_for (i_any (e_var 4)) (g_name 7) (s_seq (s_asg (e_op f_add (e_var 2) (e_bi f_sum (a_cons (e_sl (e_var 6) o_none (o_some (e_var 7))) a_nil))) (g_name 8))
    (s_seq (s_asg (e_meth 0 (ar 3 m_Book_word) (e_var 0) (a_cons (e_call 2 m_gap_at (a_cons (e_var 1) (a_cons (e_var 8) a_nil))) (a_cons (e_op f_ix (e_var 3) (e_var 7)) a_nil))) (g_name 9))
    (s_seq (s_asg (e_op f_add (e_op f_add (e_sl (e_var 1) o_none (o_some (e_var 8))) (e_var 9)) (e_sl (e_var 1) (o_some (e_var 8)) o_none)) (g_name 1))
    (s_seti (e_bi f_len (a_cons (e_var 9) a_nil)) (e_var 6) (e_var 7))))))
    (s_ret (e_var 1))))))))))
noncomputable def m_side_by_side : List VD → Mem → Res VD := fnM 11 b_side_by_side
noncomputable def b_is_pair : Sx :=
    (s_seq (s_if (e_orT (e_notT (e_truth (e_isi .tuple (e_var 0)))) (e_asB (e_op f_ne (e_bi f_len (a_cons (e_var 0) a_nil)) (e_c (.int 2))))) (s_ret (e_c (.bl false))) s_skip)
    (s_ret (e_bi (f_bls fun bs => bs.all id) (a_cons (e_comp [2] (i_any (e_var 0)) (g_name 2) e_yes (e_call 3 m_is_number (a_cons (e_var 2) (a_cons (e_c (.int 0)) (a_cons (e_op f_sub (e_var 1) (e_c (.int 1))) a_nil))))) a_nil))))
noncomputable def m_is_pair : List VD → Mem → Res VD := fnM 3 b_is_pair
noncomputable def b_Links___init__ : Sx :=
    (s_seq (s_if (e_notT (e_truth (e_call 3 m_is_number (a_cons (e_var 1) (a_cons (e_c (.int 1)) (a_cons (e_c (.int 200)) a_nil)))))) s_fail s_skip)
    (s_seq (s_for (i_enumA (a_cons (e_var 2) a_nil)) (g_tup 2 (g_cons (g_name 3) (g_cons (g_name 4) g_nil))) (s_if (e_notT (e_truth (e_call 2 m_is_pair (a_cons (e_var 4) (a_cons (e_var 1) a_nil))))) s_fail s_skip))
    (s_seq (s_fld (tb 2 0) (e_var 1) (e_var 0))
    (s_fld (tb 2 1) (e_bi f_srtT (a_cons (e_var 2) a_nil)) (e_var 0)))))
noncomputable def m_Links___init__ : List VD → Mem → Res VD := fnM 5 b_Links___init__
noncomputable def p_Links___init__ : List VD → Mem → Res VD := arS 2 m_Links___init__
noncomputable def b_Links_pairs_o : Sx :=
    (s_ret (e_bi f_listN (a_cons (e_fld (tb 2 1) (e_var 0)) a_nil)))
noncomputable def m_Links_pairs_o : List VD → Mem → Res VD := fnM 1 b_Links_pairs_o
noncomputable def b_Links___repr__ : Sx :=
    (s_ret (e_fstr (j_cons (e_c (.str [76, 105, 110, 107, 115, 40])) (j_cons (e_fmt (e_bi f_len (a_cons (e_fld (tb 2 1) (e_var 0)) a_nil))) (j_cons (e_c (.str [32, 112, 97, 105, 114, 115, 41])) j_nil)))))
noncomputable def m_Links___repr__ : List VD → Mem → Res VD := fnM 1 b_Links___repr__
noncomputable def b_Links___bool__ : Sx :=
    (s_ret (e_c (.bl true)))
noncomputable def m_Links___bool__ : List VD → Mem → Res VD := fnM 1 b_Links___bool__
noncomputable def b_Links_size : Sx :=
    (s_ret (e_fld (tb 2 0) (e_var 0)))
noncomputable def m_Links_size : List VD → Mem → Res VD := fnM 1 b_Links_size
noncomputable def b_Links___len__ : Sx :=
    (s_ret (e_bi f_len (a_cons (e_fld (tb 2 1) (e_var 0)) a_nil)))
noncomputable def m_Links___len__ : List VD → Mem → Res VD := fnM 1 b_Links___len__
noncomputable def b_Links___contains__ : Sx :=
    (s_ret (e_and (e_call 2 m_is_pair (a_cons (e_var 1) (a_cons (e_fld (tb 2 0) (e_var 0)) a_nil))) (e_op f_in (e_var 1) (e_fld (tb 2 1) (e_var 0)))))
noncomputable def m_Links___contains__ : List VD → Mem → Res VD := fnM 2 b_Links___contains__
noncomputable def b_Links_pairs : Sx :=
    (s_ret (e_bi f_list (a_cons (e_fld (tb 2 1) (e_var 0)) a_nil)))
noncomputable def m_Links_pairs : List VD → Mem → Res VD := fnM 1 b_Links_pairs
noncomputable def b_Links___eq__ : Sx :=
    (s_ret (e_and (e_isC 2 (e_var 1)) (e_and (e_op f_eq (e_fld (tb 2 0) (e_var 0)) (e_prop 2 m_Links_size (e_var 1))) (e_op f_eq (e_fld (tb 2 1) (e_var 0)) (e_meth 2 (ar 1 m_Links_pairs) (e_var 1) a_nil)))))
noncomputable def m_Links___eq__ : List VD → Mem → Res VD := fnM 2 b_Links___eq__
noncomputable def b_Links___or__ : Sx :=
    (s_seq (s_if (e_asB (e_op f_ne (e_prop 2 m_Links_size (e_var 1)) (e_fld (tb 2 0) (e_var 0)))) s_fail s_skip)
    (s_seq (s_asg (e_lst (a_star (e_fld (tb 2 1) (e_var 0)) (a_star (e_meth 2 (ar 1 m_Links_pairs) (e_var 1) a_nil) a_nil))) (g_name 2))
    (s_ret (e_make 2 2 p_Links___init__ (a_cons (e_fld (tb 2 0) (e_var 0)) (a_star (e_var 2) a_nil))))))
noncomputable def m_Links___or__ : List VD → Mem → Res VD := fnM 3 b_Links___or__
noncomputable def b__law_links_of : Sx :=
    (s_seq (s_asg (e_make 2 2 p_Links___init__ (a_cons (e_var 0) a_nil)) (g_name 2))
    (s_seq (s_for (i_any (e_var 1)) (g_name 3) (s_asg (e_op (f_binO 2 (ar 2 m_Links___or__)) (e_var 2) (e_make 2 2 p_Links___init__ (a_cons (e_var 0) (a_cons (e_var 3) a_nil)))) (g_name 2)))
    (s_ret (e_var 2))))
noncomputable def m__law_links_of : List VD → Mem → Res VD := fnM 4 b__law_links_of
noncomputable def b__law_some_machine : Sx :=
    (s_seq (s_asg (e_op f_add (e_c (.int 1)) (e_call 2 m__law_draw (a_cons (e_var 0) (a_cons (e_var 2) a_nil)))) (g_name 3))
    (s_seq (s_asg (e_comp [5] (i_rng1 (a_cons (e_var 3) a_nil)) (g_name 5) e_yes (e_tupO (e_comp [6] (i_any (e_var 1)) (g_name 6) e_yes (e_call 2 m__law_draw (a_cons (e_var 0) (a_cons (e_var 3) a_nil)))))) (g_name 4))
    (s_ret (e_lst (a_cons (e_var 4) (a_cons (e_comp [5] (i_rng1 (a_cons (e_var 3) a_nil)) (g_name 5) (e_asB (e_op f_eq (e_call 2 m__law_draw (a_cons (e_var 0) (a_cons (e_c (.int 3)) a_nil))) (e_c (.int 0)))) (e_var 5)) a_nil))))))
noncomputable def m__law_some_machine : List VD → Mem → Res VD := fnM 7 b__law_some_machine
noncomputable def b_check_table : Sx :=
    (s_seq (s_if (e_orT (e_notT (e_truth (e_isi2 .list .tuple (e_var 1)))) (e_notT (e_asB (e_chain f_le f_le (e_c (.int 1)) (e_bi f_len (a_cons (e_var 1) a_nil)) (e_c (.int 200)))))) s_fail s_skip)
    (s_for (i_enumA (a_cons (e_var 1) a_nil)) (g_tup 2 (g_cons (g_name 2) (g_cons (g_name 3) g_nil))) (s_seq (s_if (e_orT (e_notT (e_truth (e_isi2 .list .tuple (e_var 3)))) (e_asB (e_op f_ne (e_bi f_len (a_cons (e_var 3) a_nil)) (e_bi f_len (a_cons (e_var 0) a_nil))))) s_fail s_skip)
    (s_if (e_notT (e_truth (e_bi (f_bls fun bs => bs.all id) (a_cons (e_comp [4] (i_any (e_var 3)) (g_name 4) e_yes (e_call 3 m_is_number (a_cons (e_var 4) (a_cons (e_c (.int 0)) (a_cons (e_op f_sub (e_bi f_len (a_cons (e_var 1) a_nil)) (e_c (.int 1))) a_nil))))) a_nil)))) s_fail s_skip))))
noncomputable def m_check_table : List VD → Mem → Res VD := fnM 5 b_check_table
noncomputable def b_check_bad : Sx :=
    (s_seq (s_if (e_notT (e_truth (e_isi2 .list .tuple (e_var 0)))) s_fail s_skip)
    (s_for (i_enumA (a_cons (e_var 0) a_nil)) (g_tup 2 (g_cons (g_name 2) (g_cons (g_name 3) g_nil))) (s_if (e_orT (e_notT (e_truth (e_call 3 m_is_number (a_cons (e_var 3) (a_cons (e_c (.int 0)) (a_cons (e_op f_sub (e_var 1) (e_c (.int 1))) a_nil)))))) (e_andT (e_asB (e_op f_gt (e_var 2) (e_c (.int 0)))) (e_asB (e_op f_le (e_var 3) (e_op f_ix (e_var 0) (e_op f_sub (e_var 2) (e_c (.int 1)))))))) s_fail s_skip)))
noncomputable def m_check_bad : List VD → Mem → Res VD := fnM 4 b_check_bad
noncomputable def b_Machine___init__ : Sx :=
    (s_seq (s_if (e_notT (e_truth (e_call 1 m_is_kinds (a_cons (e_var 1) a_nil)))) s_fail s_skip)
    (s_seq (s_expr (e_call 2 m_check_table (a_cons (e_var 1) (a_cons (e_var 2) a_nil))))
    (s_seq (s_expr (e_call 2 m_check_bad (a_cons (e_var 3) (a_cons (e_bi f_len (a_cons (e_var 2) a_nil)) a_nil))))
    (s_seq (s_fld (tb 1 0) (e_var 1) (e_var 0))
    (s_seq (s_fld (tb 1 1) (e_comp [4] (i_any (e_var 2)) (g_name 4) e_yes (e_tupO (e_var 4))) (e_var 0))
    (s_fld (tb 1 2) (e_bi f_list (a_cons (e_var 3) a_nil)) (e_var 0)))))))
noncomputable def m_Machine___init__ : List VD → Mem → Res VD := fnM 5 b_Machine___init__
noncomputable def b__law_machine : Sx :=
    (s_ret (e_make 1 3 (ar 4 m_Machine___init__) (a_cons (e_var 0) (a_cons (e_op f_ix (e_var 1) (e_c (.int 0))) (a_cons (e_op f_ix (e_var 1) (e_c (.int 1))) a_nil)))))
noncomputable def m__law_machine : List VD → Mem → Res VD := fnM 2 b__law_machine
noncomputable def b__law_run : Sx :=
    (s_seq (s_for (i_any (e_var 2)) (g_name 4) (s_asg (e_op f_ix (e_op f_ix (e_var 1) (e_var 3)) (e_m1 f_sidx (e_var 0) (e_var 4))) (g_name 3)))
    (s_ret (e_var 3)))
noncomputable def m__law_run : List VD → Mem → Res VD := fnM 5 b__law_run
noncomputable def b_Links_same : Sx :=
    (s_seq (s_if (e_notT (e_truth (e_call 3 m_is_number (a_cons (e_var 0) (a_cons (e_c (.int 1)) (a_cons (e_c (.int 200)) a_nil)))))) s_fail s_skip)
    (s_seq (s_asg (e_comp [2] (i_rng1 (a_cons (e_var 0) a_nil)) (g_name 2) e_yes (e_tup (a_cons (e_var 2) (a_cons (e_var 2) a_nil)))) (g_name 1))
    (s_ret (e_make 2 2 p_Links___init__ (a_cons (e_var 0) (a_star (e_var 1) a_nil))))))
noncomputable def m_Links_same : List VD → Mem → Res VD := fnM 3 b_Links_same
noncomputable def b_Machine_size : Sx :=
    (s_ret (e_bi f_len (a_cons (e_fld (tb 1 1) (e_var 0)) a_nil)))
noncomputable def m_Machine_size : List VD → Mem → Res VD := fnM 1 b_Machine_size
noncomputable def b_Machine_run : Sx :=
    (s_seq (s_for (i_any (e_var 1)) (g_name 3) (s_asg (e_op f_ix (e_op f_ix (e_fld (tb 1 1) (e_var 0)) (e_var 2)) (e_m1 f_sidx (e_fld (tb 1 0) (e_var 0)) (e_var 3))) (g_name 2)))
    (s_ret (e_var 2)))
noncomputable def m_Machine_run : List VD → Mem → Res VD := fnM 4 b_Machine_run
noncomputable def b_Links_reading : Sx :=
    (s_seq (s_if (e_notT (e_truth (e_call 2 m_is_string (a_cons (e_var 1) (a_cons (e_fld (tb 1 0) (e_var 0)) a_nil))))) s_fail s_skip)
    (s_seq (s_asg (e_comp [3] (i_rng1 (a_cons (e_prop 1 m_Machine_size (e_var 0)) a_nil)) (g_name 3) e_yes (e_tup (a_cons (e_var 3) (a_cons (e_meth 1 (ar 3 m_Machine_run) (e_var 0) (a_cons (e_var 1) (a_cons (e_var 3) a_nil))) a_nil)))) (g_name 2))
    (s_ret (e_make 2 2 p_Links___init__ (a_cons (e_prop 1 m_Machine_size (e_var 0)) (a_star (e_var 2) a_nil))))))
noncomputable def m_Links_reading : List VD → Mem → Res VD := fnM 4 b_Links_reading
noncomputable def b_check_text : Sx :=
    (s_seq (s_if (e_notT (e_truth (e_call 1 m_is_kinds (a_cons (e_var 0) a_nil)))) s_fail s_skip)
    (s_if (e_orT (e_notT (e_truth (e_call 2 m_is_row (a_cons (e_var 1) (a_cons (e_var 0) a_nil))))) (e_asB (e_op f_eq (e_var 1) (e_c (.str []))))) s_fail s_skip))
noncomputable def m_check_text : List VD → Mem → Res VD := fnM 2 b_check_text
noncomputable def b_matched : Sx :=
    (s_ret (e_bi f_max (a_cons (e_comp [2] (i_rng1 (a_cons (e_op f_add (e_bi f_len (a_cons (e_var 0) a_nil)) (e_c (.int 1))) a_nil)) (g_name 2) (e_truth (e_m1 f_ends (e_var 1) (e_sl (e_var 0) o_none (o_some (e_var 2))))) (e_var 2)) a_nil)))
noncomputable def m_matched : List VD → Mem → Res VD := fnM 3 b_matched
noncomputable def b_Machine_counted : Sx :=
    (s_seq (s_if (e_notT (e_truth (e_call 1 m_is_kinds (a_cons (e_var 0) a_nil)))) s_fail s_skip)
    (s_seq (s_if (e_notT (e_truth (e_call 2 m_is_one (a_cons (e_var 1) (a_cons (e_var 0) a_nil))))) s_fail s_skip)
    (s_seq (s_if (e_notT (e_truth (e_call 3 m_is_number (a_cons (e_var 2) (a_cons (e_c (.int 2)) (a_cons (e_c (.int 8)) a_nil)))))) s_fail s_skip)
    (s_seq (s_if (e_notT (e_truth (e_call 3 m_is_number (a_cons (e_var 3) (a_cons (e_c (.int 0)) (a_cons (e_op f_sub (e_var 2) (e_c (.int 1))) a_nil)))))) s_fail s_skip)
    (s_seq (s_asg (e_comp [5] (i_rng1 (a_cons (e_var 2) a_nil)) (g_name 5) e_yes (e_tupO (e_comp [6] (i_any (e_var 0)) (g_name 6) e_yes (e_op f_mod (e_bi f_int (a_cons (e_op f_add (e_var 5) (e_bi f_int (a_cons (e_op f_eq (e_var 6) (e_var 1)) a_nil))) a_nil)) (e_var 2))))) (g_name 4))
    (s_ret (e_make 1 3 (ar 4 m_Machine___init__) (a_cons (e_var 0) (a_cons (e_var 4) (a_cons (e_comp [5] (i_rng1 (a_cons (e_var 2) a_nil)) (g_name 5) (e_asB (e_op f_ne (e_var 5) (e_var 3))) (e_var 5)) a_nil))))))))))
noncomputable def m_Machine_counted : List VD → Mem → Res VD := fnM 7 b_Machine_counted
noncomputable def b_Machine___contains__ : Sx :=
    (s_ret (e_and (e_call 2 m_is_string (a_cons (e_var 1) (a_cons (e_fld (tb 1 0) (e_var 0)) a_nil))) (e_op f_ni (e_meth 1 (ar 3 m_Machine_run) (e_var 0) (a_cons (e_var 1) (a_cons (e_c (.int 0)) a_nil))) (e_fld (tb 1 2) (e_var 0)))))
noncomputable def m_Machine___contains__ : List VD → Mem → Res VD := fnM 2 b_Machine___contains__
noncomputable def b_Machine_without : Sx :=
    (s_seq (s_expr (e_call 2 m_check_text (a_cons (e_var 0) (a_cons (e_var 1) a_nil))))
    (s_seq (s_asg (e_comp [3] (i_rng1 (a_cons (e_bi f_len (a_cons (e_var 1) a_nil)) a_nil)) (g_name 3) e_yes (e_tupO (e_comp [4] (i_any (e_var 0)) (g_name 4) e_yes (e_call 2 m_matched (a_cons (e_var 1) (a_cons (e_op f_add (e_sl (e_var 1) o_none (o_some (e_var 3))) (e_var 4)) a_nil)))))) (g_name 2))
    (s_ret (e_make 1 3 (ar 4 m_Machine___init__) (a_cons (e_var 0) (a_cons (e_lst (a_star (e_var 2) (a_cons (e_op f_mulT (e_tup (a_cons (e_bi f_len (a_cons (e_var 1) a_nil)) a_nil)) (e_bi f_len (a_cons (e_var 0) a_nil))) a_nil))) (a_cons (e_lst (a_cons (e_bi f_len (a_cons (e_var 1) a_nil)) a_nil)) a_nil)))))))
noncomputable def m_Machine_without : List VD → Mem → Res VD := fnM 5 b_Machine_without
noncomputable def b_Machine_begins : Sx :=
    (s_seq (s_expr (e_call 2 m_check_text (a_cons (e_var 0) (a_cons (e_var 1) a_nil))))
    (s_seq (s_asg (e_bi f_len (a_cons (e_var 1) a_nil)) (g_name 2))
    (s_seq (s_asg (e_comp [4] (i_rng1 (a_cons (e_var 2) a_nil)) (g_name 4) e_yes (e_tupO (e_comp [5] (i_any (e_var 0)) (g_name 5) e_yes (e_if (e_asB (e_op f_eq (e_var 5) (e_op f_ix (e_var 1) (e_var 4)))) (e_op f_add (e_var 4) (e_c (.int 1))) (e_op f_add (e_var 2) (e_c (.int 1))))))) (g_name 3))
    (s_seq (s_asg (e_lst (a_star (e_var 3) (a_cons (e_op f_mulT (e_tup (a_cons (e_var 2) a_nil)) (e_bi f_len (a_cons (e_var 0) a_nil))) (a_cons (e_op f_mulT (e_tup (a_cons (e_op f_add (e_var 2) (e_c (.int 1))) a_nil)) (e_bi f_len (a_cons (e_var 0) a_nil))) a_nil)))) (g_name 3))
    (s_ret (e_make 1 3 (ar 4 m_Machine___init__) (a_cons (e_var 0) (a_cons (e_var 3) (a_cons (e_comp [4] (i_rng1 (a_cons (e_op f_add (e_var 2) (e_c (.int 2))) a_nil)) (g_name 4) (e_asB (e_op f_ne (e_var 4) (e_var 2))) (e_var 4)) a_nil)))))))))
noncomputable def m_Machine_begins : List VD → Mem → Res VD := fnM 6 b_Machine_begins
noncomputable def b_check_row_x : Sx :=
    (s_if (e_notT (e_truth (e_call 2 m_is_row (a_cons (e_var 1) (a_cons (e_fld (tb 0 0) (e_var 0)) a_nil))))) (s_raise 24 [73, 110, 118, 97, 108, 105, 100, 82, 111, 119] (a_cons (e_var 1) a_nil)) s_skip)
noncomputable def m_check_row_x : List VD → Mem → Res VD := fnX 2 b_check_row_x
noncomputable def b_Book_line_at_x : Sx :=
    (s_seq (s_if (e_notT (e_truth (e_call 2 m_is_gap (a_cons (e_var 1) (a_cons (e_fld (tb 0 0) (e_var 0)) a_nil))))) (s_raise 21 [73, 110, 118, 97, 108, 105, 100, 71, 97, 112] (a_cons (e_var 1) a_nil)) s_skip)
    (s_seq (s_if (e_notT (e_truth (e_call 2 m_is_one (a_cons (e_var 2) (a_cons (e_fld (tb 0 1) (e_var 0)) a_nil))))) (s_raise 22 [73, 110, 118, 97, 108, 105, 100, 67, 111, 109, 101, 114] (a_cons (e_var 2) a_nil)) s_skip)
    (s_seq (s_for (i_enumA (a_cons (e_fld (tb 0 2) (e_var 0)) a_nil)) (g_tup 2 (g_cons (g_name 3) (g_cons (g_name 4) g_nil))) (s_if (e_andT (e_truth (e_call 2 m_takes (a_cons (e_op f_ix (e_var 4) (e_c (.int 0))) (a_cons (e_op f_ix (e_var 1) (e_c (.int 0))) a_nil)))) (e_andT (e_truth (e_call 2 m_takes (a_cons (e_op f_ix (e_var 4) (e_c (.int 1))) (a_cons (e_var 2) a_nil)))) (e_truth (e_call 2 m_takes (a_cons (e_op f_ix (e_var 4) (e_c (.int 2))) (a_cons (e_op f_ix (e_var 1) (e_c (.int 1))) a_nil)))))) (s_ret (e_var 3)) s_skip))
    (s_ret (e_c .non)))))
noncomputable def m_Book_line_at_x : List VD → Mem → Res VD := fnX 5 b_Book_line_at_x
noncomputable def b_Book_word_x : Sx :=
    (s_seq (s_asg (e_meth 0 (ar 3 m_Book_line_at_x) (e_var 0) (a_cons (e_var 1) (a_cons (e_var 2) a_nil))) (g_name 3))
    (s_ret (e_if (e_asB (e_op (f_is false) (e_var 3) (e_c .non))) (e_c (.str [])) (e_op f_ix (e_op f_ix (e_fld (tb 0 2) (e_var 0)) (e_var 3)) (e_c (.int 3))))))
noncomputable def m_Book_word_x : List VD → Mem → Res VD := fnX 4 b_Book_word_x
noncomputable def b_behind_x : Sx :=
    (s_ret (e_op f_add (e_op f_add (e_sl (e_var 1) o_none (o_some (e_var 2))) (e_meth 0 (ar 3 m_Book_word_x) (e_var 0) (a_cons (e_call 2 m_gap_at (a_cons (e_var 1) (a_cons (e_var 2) a_nil))) (a_cons (e_var 3) a_nil)))) (e_sl (e_var 1) (o_some (e_var 2)) o_none)))
noncomputable def m_behind_x : List VD → Mem → Res VD := fnX 4 b_behind_x
noncomputable def b_play_x : Sx :=
    (s_seq (s_expr (e_call 2 m_check_row_x (a_cons (e_var 0) (a_cons (e_var 1) a_nil))))
    (s_seq (s_if (e_notT (e_truth (e_isi2 .list .tuple (e_var 2)))) (s_raise 26 [73, 110, 118, 97, 108, 105, 100, 83, 116, 101, 112] (a_cons (e_c (.int (-1))) a_nil)) s_skip)
    (s_seq (s_asg (e_var 1) (g_name 3))
    (s_seq (s_for (i_enumA (a_cons (e_var 2) a_nil)) (g_tup 2 (g_cons (g_name 4) (g_cons (g_name 5) g_nil))) (s_seq (s_if (e_notT (e_truth (e_call 3 m_is_step (a_cons (e_var 5) (a_cons (e_var 0) (a_cons (e_bi f_len (a_cons (e_var 3) a_nil)) a_nil)))))) (s_raise 26 [73, 110, 118, 97, 108, 105, 100, 83, 116, 101, 112] (a_cons (e_var 4) a_nil)) s_skip)
    (s_asg (e_call 4 m_behind_x (a_cons (e_var 0) (a_cons (e_var 3) (a_cons (e_op f_ix (e_var 5) (e_c (.int 0))) (a_cons (e_op f_ix (e_var 5) (e_c (.int 1))) a_nil))))) (g_name 3))))
    (s_ret (e_var 3))))))
noncomputable def m_play_x : List VD → Mem → Res VD := fnX 6 b_play_x
noncomputable def b_gaps_of_x : Sx :=
    (s_seq (s_expr (e_call 2 m_check_row_x (a_cons (e_var 0) (a_cons (e_var 1) a_nil))))
    (s_ret (e_call 1 m_row_gaps (a_cons (e_var 1) a_nil))))
noncomputable def m_gaps_of_x : List VD → Mem → Res VD := fnX 2 b_gaps_of_x
noncomputable def b_parts_of : Sx :=
    (s_seq (s_asg (e_op f_add (e_op f_add (e_op f_ix (e_var 0) (e_c (.int 0))) (e_var 1)) (e_op f_ix (e_var 0) (e_c (.int 1)))) (g_name 2))
    (s_ret (e_comp [3] (i_rng1 (a_cons (e_op f_add (e_bi f_len (a_cons (e_var 1) a_nil)) (e_c (.int 1))) a_nil)) (g_name 3) e_yes (e_sl (e_var 2) (o_some (e_var 3)) (o_some (e_op f_add (e_var 3) (e_c (.int 2))))))))
noncomputable def m_parts_of : List VD → Mem → Res VD := fnM 4 b_parts_of
noncomputable def b_Book_parts : Sx :=
    (s_ret (e_call 2 m_parts_of (a_cons (e_var 1) (a_cons (e_meth 0 (ar 3 m_Book_word) (e_var 0) (a_cons (e_var 1) (a_cons (e_var 2) a_nil))) a_nil))))
noncomputable def m_Book_parts : List VD → Mem → Res VD := fnM 3 b_Book_parts
noncomputable def b_Book_parts_x : Sx :=
    (s_ret (e_call 2 m_parts_of (a_cons (e_var 1) (a_cons (e_meth 0 (ar 3 m_Book_word_x) (e_var 0) (a_cons (e_var 1) (a_cons (e_var 2) a_nil))) a_nil))))
noncomputable def m_Book_parts_x : List VD → Mem → Res VD := fnX 3 b_Book_parts_x
end G

/-! the mirror's combinators without binders, for simp -/
namespace G
open PySem PySem.Spec PyProof.Rows L2
theorem nrfl {α : Sort _} {a b : α} (h : a = b) : a = b := h
def opK (f : VD → VD → Mem → Res VD) (r : Res VD) (b : Mx VD) (ρ : Env) : Res VD := r.bind fun x M1 => (b ρ M1).bind fun y M2 => f x y M2
def opK2 (f : VD → VD → Mem → Res VD) (x : VD) (r : Res VD) : Res VD := r.bind fun y M2 => f x y M2
@[simp] theorem e_op_eq {f a b ρ M} : e_op f a b ρ M = opK f (a ρ M) b ρ := nrfl rfl
@[simp] theorem opK_ok {f x M b ρ} : opK f (.ok x M) b ρ = opK2 f x (b ρ M) := nrfl rfl
@[simp] theorem opK2_ok {f x y M} : opK2 f x (.ok y M) = f x y M := nrfl rfl
def varK (o : Option (Option VD)) (M : Mem) : Res VD := match o with
  | some (some d) => .ok d M
  | _ => .fail
@[simp] theorem e_var_eq {i : Nat} {ρ : Env} {M} : e_var i ρ M = varK (ρ[i]?) M := nrfl rfl
@[simp] theorem varK_ok {d M} : varK (some (some d)) M = .ok d M := nrfl rfl
@[simp] theorem e_c_eq {d ρ M} : e_c d ρ M = .ok (.d d) M := nrfl rfl
def asBK (r : Res VD) : Res Bool := r.bind asB
@[simp] theorem e_asB_eq {m ρ M} : e_asB m ρ M = asBK (m ρ M) := nrfl rfl
@[simp] theorem asBK_ok {b M} : asBK (.ok (.d (.bl b)) M) = .ok b M := nrfl rfl
def truthK (r : Res VD) : Res Bool := r.bind fun v M1 => match truth M1 v with
  | some b => .ok b M1
  | none => .fail
@[simp] theorem e_truth_eq {m ρ M} : e_truth m ρ M = truthK (m ρ M) := nrfl rfl
@[simp] theorem truthK_bl {b M} : truthK (.ok (.d (.bl b)) M) = .ok b M := nrfl rfl
@[simp] theorem truthK_non {M} : truthK (.ok (.d .non) M) = .ok false M := nrfl rfl
@[simp] theorem truthK_int {i M} : truthK (.ok (.d (.int i)) M) = .ok (i != 0) M := nrfl rfl
def andTK (r : Res Bool) (b : Mx Bool) (ρ : Env) : Res Bool := r.bind fun c M1 => if c then b ρ M1 else .ok false M1
def orTK (r : Res Bool) (b : Mx Bool) (ρ : Env) : Res Bool := r.bind fun c M1 => if c then .ok true M1 else b ρ M1
def notTK (r : Res Bool) : Res Bool := r.bind fun c M1 => .ok (!c) M1
@[simp] theorem e_andT_eq {a b ρ M} : e_andT a b ρ M = andTK (a ρ M) b ρ := nrfl rfl
@[simp] theorem e_orT_eq {a b ρ M} : e_orT a b ρ M = orTK (a ρ M) b ρ := nrfl rfl
@[simp] theorem e_notT_eq {a ρ M} : e_notT a ρ M = notTK (a ρ M) := nrfl rfl
@[simp] theorem andTK_t {b ρ M} : andTK (.ok true M) b ρ = b ρ M := nrfl rfl
@[simp] theorem andTK_f {b ρ M} : andTK (.ok false M) b ρ = .ok false M := nrfl rfl
@[simp] theorem orTK_t {b ρ M} : orTK (.ok true M) b ρ = .ok true M := nrfl rfl
@[simp] theorem orTK_f {b ρ M} : orTK (.ok false M) b ρ = b ρ M := nrfl rfl
@[simp] theorem notTK_ok {c M} : notTK (.ok c M) = .ok (!c) M := nrfl rfl
def andK (r : Res VD) (b : Mx VD) (ρ : Env) : Res VD := r.bind fun v M1 => (asB v M1).bind fun c M2 => if c then b ρ M2 else .ok (.d (.bl false)) M2
def orK (r : Res VD) (b : Mx VD) (ρ : Env) : Res VD := r.bind fun v M1 => (asB v M1).bind fun c M2 => if c then .ok (.d (.bl true)) M2 else b ρ M2
def notK (r : Res VD) : Res VD := r.bind fun v M1 => (asB v M1).bind fun c M2 => .ok (.d (.bl (!c))) M2
@[simp] theorem e_and_eq {a b ρ M} : e_and a b ρ M = andK (a ρ M) b ρ := nrfl rfl
@[simp] theorem e_or_eq {a b ρ M} : e_or a b ρ M = orK (a ρ M) b ρ := nrfl rfl
@[simp] theorem e_not_eq {a ρ M} : e_not a ρ M = notK (a ρ M) := nrfl rfl
@[simp] theorem andK_t {b ρ M} : andK (.ok (.d (.bl true)) M) b ρ = b ρ M := nrfl rfl
@[simp] theorem andK_f {b ρ M} : andK (.ok (.d (.bl false)) M) b ρ = .ok (.d (.bl false)) M := nrfl rfl
@[simp] theorem orK_t {b ρ M} : orK (.ok (.d (.bl true)) M) b ρ = .ok (.d (.bl true)) M := nrfl rfl
@[simp] theorem orK_f {b ρ M} : orK (.ok (.d (.bl false)) M) b ρ = b ρ M := nrfl rfl
@[simp] theorem notK_ok {c M} : notK (.ok (.d (.bl c)) M) = .ok (.d (.bl (!c))) M := nrfl rfl
def ifK (r : Res Bool) (a b : Mx VD) (ρ : Env) : Res VD := r.bind fun c M1 => if c then a ρ M1 else b ρ M1
@[simp] theorem e_if_eq {t a b ρ M} : e_if t a b ρ M = ifK (t ρ M) a b ρ := nrfl rfl
@[simp] theorem ifK_t {a b ρ M} : ifK (.ok true M) a b ρ = a ρ M := nrfl rfl
@[simp] theorem ifK_f {a b ρ M} : ifK (.ok false M) a b ρ = b ρ M := nrfl rfl
def chK (f g : VD → VD → Mem → Res VD) (r : Res VD) (b c : Mx VD) (ρ : Env) : Res VD := r.bind fun x M1 => (b ρ M1).bind fun y M2 => (f x y M2).bind fun z M3 => (asB z M3).bind fun q M4 => if q then (c ρ M4).bind fun w M5 => g y w M5 else .ok (.d (.bl false)) M4
def chK2 (f g : VD → VD → Mem → Res VD) (x : VD) (r : Res VD) (c : Mx VD) (ρ : Env) : Res VD := r.bind fun y M2 => (f x y M2).bind fun z M3 => (asB z M3).bind fun q M4 => if q then (c ρ M4).bind fun w M5 => g y w M5 else .ok (.d (.bl false)) M4
def chK3 (g : VD → VD → Mem → Res VD) (y : VD) (r : Res VD) (c : Mx VD) (ρ : Env) : Res VD := r.bind fun z M3 => (asB z M3).bind fun q M4 => if q then (c ρ M4).bind fun w M5 => g y w M5 else .ok (.d (.bl false)) M4
@[simp] theorem e_chain_eq {f g a b c ρ M} : e_chain f g a b c ρ M = chK f g (a ρ M) b c ρ := nrfl rfl
@[simp] theorem chK_ok {f g x M b c ρ} : chK f g (.ok x M) b c ρ = chK2 f g x (b ρ M) c ρ := nrfl rfl
@[simp] theorem chK2_ok {f g x y M c ρ} : chK2 f g x (.ok y M) c ρ = chK3 g y (f x y M) c ρ := nrfl rfl
@[simp] theorem chK3_t {g y M c ρ} : chK3 g y (.ok (.d (.bl true)) M) c ρ = opK2 g y (c ρ M) := nrfl rfl
@[simp] theorem chK3_f {g y M c ρ} : chK3 g y (.ok (.d (.bl false)) M) c ρ = .ok (.d (.bl false)) M := nrfl rfl
def consK (r : Res VD) (t : Mx (List VD)) (ρ : Env) : Res (List VD) := r.bind fun v M1 => (t ρ M1).bind fun vs M2 => .ok (v :: vs) M2
def consK2 (v : VD) (r : Res (List VD)) : Res (List VD) := r.bind fun vs M2 => .ok (v :: vs) M2
@[simp] theorem a_nil_eq {ρ M} : a_nil ρ M = .ok [] M := nrfl rfl
@[simp] theorem a_cons_eq {a r ρ M} : a_cons a r ρ M = consK (a ρ M) r ρ := nrfl rfl
@[simp] theorem consK_ok {v M t ρ} : consK (.ok v M) t ρ = consK2 v (t ρ M) := nrfl rfl
@[simp] theorem consK2_ok {v vs M} : consK2 v (.ok vs M) = .ok (v :: vs) M := nrfl rfl
def lstK (r : Res (List VD)) : Res VD := r.bind mkL
def tupK (r : Res (List VD)) : Res VD := r.bind mkT
@[simp] theorem e_lst_eq {ms ρ M} : e_lst ms ρ M = lstK (ms ρ M) := nrfl rfl
@[simp] theorem e_tup_eq {ms ρ M} : e_tup ms ρ M = tupK (ms ρ M) := nrfl rfl
@[simp] theorem dats_nil : dats [] = some [] := nrfl rfl
@[simp] theorem dats_cons {x r} : dats (.d x :: r) = (dats r).map (x :: ·) := nrfl rfl
@[simp] theorem lstK_ok {vs M} : lstK (.ok vs M) = match dats vs with
  | some ds => if ds.length ≤ lim then .ok (.d (.lst ds)) M else .fail
  | none => .fail := nrfl rfl
@[simp] theorem tupK_ok {vs M} : tupK (.ok vs M) = match dats vs with
  | some ds => if ds.length ≤ lim then .ok (.d (.tup ds)) M else .fail
  | none => .fail := nrfl rfl
def lstOK (r : Res (List VD)) : Res VD := r.bind fun vs M1 => match dats vs with
  | some ds => if ds.length ≤ lim then .ok (.adr M1.length) (M1 ++ [.lst ds]) else .fail
  | none => .fail
@[simp] theorem e_lstO_eq {ms ρ M} : e_lstO ms ρ M = lstOK (ms ρ M) := nrfl rfl
@[simp] theorem lstOK_ok {vs M} : lstOK (.ok vs M) = match dats vs with
  | some ds => if ds.length ≤ lim then .ok (.adr M.length) (M ++ [.lst ds]) else .fail
  | none => .fail := nrfl rfl
def callK (n : Nat) (m : List VD → Mem → Res VD) (r : Res (List VD)) : Res VD := r.bind fun vs M1 => if vs.length = n then m vs M1 else .fail
@[simp] theorem e_call_eq {n m ms ρ M} : e_call n m ms ρ M = callK n m (ms ρ M) := nrfl rfl
@[simp] theorem callK_ok {n m vs M} (h : vs.length = n) : callK n m (.ok vs M) = m vs M := by
  unfold callK Res.bind
  dsimp only
  rw [if_pos h]
def biK (f : List VD → Mem → Res VD) (r : Res (List VD)) : Res VD := r.bind f
@[simp] theorem e_bi_eq {f ms ρ M} : e_bi f ms ρ M = biK f (ms ρ M) := nrfl rfl
@[simp] theorem biK_ok {f vs M} : biK f (.ok vs M) = f vs M := nrfl rfl
/-! values -/
@[simp] theorem f_add_i {i j M} : f_add (.d (.int i)) (.d (.int j)) M = .ok (.d (.int (i + j))) M := nrfl rfl
@[simp] theorem f_add_s {s t M} : f_add (.d (.str s)) (.d (.str t)) M = if s.length + t.length ≤ lim then .ok (.d (.str (s ++ t))) M else .fail := nrfl rfl
@[simp] theorem f_add_l {s t M} : f_add (.d (.lst s)) (.d (.lst t)) M = if s.length + t.length ≤ lim then .ok (.d (.lst (s ++ t))) M else .fail := nrfl rfl
@[simp] theorem f_add_t {s t M} : f_add (.d (.tup s)) (.d (.tup t)) M = if s.length + t.length ≤ lim then .ok (.d (.tup (s ++ t))) M else .fail := nrfl rfl
@[simp] theorem f_sub_i {i j M} : f_sub (.d (.int i)) (.d (.int j)) M = .ok (.d (.int (i - j))) M := nrfl rfl
@[simp] theorem f_mod_i {i j M} : f_mod (.d (.int i)) (.d (.int j)) M = gi (0 < j) (.ok (.d (.int (i % j))) M) .fail := nrfl rfl
@[simp] theorem f_fdiv_i {i j M} : f_fdiv (.d (.int i)) (.d (.int j)) M = gi (0 < j ∧ j < 1073741824) (.ok (.d (.int (i / j))) M) .fail := nrfl rfl
@[simp] theorem f_mul_i {i j M} : f_mul (.d (.int i)) (.d (.int j)) M = gi ((-(2 ^ 64) < i ∧ i < 2 ^ 64) ∨ (-(2 ^ 64) < j ∧ j < 2 ^ 64)) (.ok (.d (.int (i * j))) M) .fail := nrfl rfl
@[simp] theorem f_mul_l {s j M} : f_mul (.d (.lst s)) (.d (.int j)) M = gi (j < 2 ^ 60 ∧ -(2 ^ 60) < j ∧ s.length * j.toNat ≤ lim) (.ok (.d (.lst (List.replicate j.toNat s).flatten)) M) .fail := nrfl rfl
@[simp] theorem f_pow_i {i j M} : f_pow (.d (.int i)) (.d (.int j)) M = gi (0 ≤ j ∧ j ≤ 1000000 ∧ i.natAbs < 2 ^ 64) (.ok (.d (.int (i ^ j.toNat))) M) .fail := nrfl rfl
@[simp] theorem f_lt_i {i j M} : f_lt (.d (.int i)) (.d (.int j)) M = .ok (.d (.bl (decide (i < j)))) M := nrfl rfl
@[simp] theorem f_le_i {i j M} : f_le (.d (.int i)) (.d (.int j)) M = .ok (.d (.bl (decide (i ≤ j)))) M := nrfl rfl
@[simp] theorem f_gt_i {i j M} : f_gt (.d (.int i)) (.d (.int j)) M = .ok (.d (.bl (decide (j < i)))) M := nrfl rfl
@[simp] theorem f_ge_i {i j M} : f_ge (.d (.int i)) (.d (.int j)) M = .ok (.d (.bl (decide (j ≤ i)))) M := nrfl rfl
@[simp] theorem f_lt_s {s t M} : f_lt (.d (.str s)) (.d (.str t)) M = .ok (.d (.bl (ltL s t))) M := nrfl rfl
@[simp] theorem f_le_s {s t M} : f_le (.d (.str s)) (.d (.str t)) M = .ok (.d (.bl (!ltL t s))) M := nrfl rfl
@[simp] theorem f_gt_s {s t M} : f_gt (.d (.str s)) (.d (.str t)) M = .ok (.d (.bl (ltL t s))) M := nrfl rfl
@[simp] theorem f_ge_s {s t M} : f_ge (.d (.str s)) (.d (.str t)) M = .ok (.d (.bl (!ltL s t))) M := nrfl rfl
@[simp] theorem f_eq_d {x y : D} {M} : f_eq (.d x) (.d y) M = if x.pl 20 && y.pl 20 then .ok (.d (.bl (D.eqv x y))) M else .fail := nrfl rfl
@[simp] theorem f_ne_d {x y : D} {M} : f_ne (.d x) (.d y) M = if x.pl 20 && y.pl 20 then .ok (.d (.bl (!D.eqv x y))) M else .fail := nrfl rfl
@[simp] theorem f_in_c {c t M} : f_in (.d (.str [c])) (.d (.str t)) M = .ok (.d (.bl (decide (c ∈ t)))) M := nrfl rfl
@[simp] theorem f_ni_c {c t M} : f_ni (.d (.str [c])) (.d (.str t)) M = .ok (.d (.bl (!decide (c ∈ t)))) M := nrfl rfl
theorem inn_l {neg} {x : D} {ys M} : f_inn neg (.d x) (.d (.lst ys)) M = if x.pl 20 && D.plA 19 ys then .ok (.d (.bl (if neg then !ys.any fun z => D.eqv z x else ys.any fun z => D.eqv z x))) M else .fail := by
  cases x <;> first | rfl | (rename_i s; cases s <;> first | rfl | (rename_i t; cases t <;> rfl))
@[simp] theorem f_in_l {x : D} {ys M} : f_in (.d x) (.d (.lst ys)) M = if x.pl 20 && D.plA 19 ys then .ok (.d (.bl (ys.any fun z => D.eqv z x))) M else .fail := inn_l
@[simp] theorem f_ni_l {x : D} {ys M} : f_ni (.d x) (.d (.lst ys)) M = if x.pl 20 && D.plA 19 ys then .ok (.d (.bl (!ys.any fun z => D.eqv z x))) M else .fail := inn_l
@[simp] theorem f_is_nn {neg M} : f_is neg (.d .non) (.d .non) M = .ok (.d (.bl (!neg))) M := nrfl rfl
@[simp] theorem f_is_a {neg i M} : f_is neg (.adr i) (.d .non) M = .ok (.d (.bl neg)) M := nrfl rfl
@[simp] theorem f_is_b {neg b M} : f_is neg (.d (.bl b)) (.d .non) M = .ok (.d (.bl neg)) M := nrfl rfl
@[simp] theorem f_is_i {neg b M} : f_is neg (.d (.int b)) (.d .non) M = .ok (.d (.bl neg)) M := nrfl rfl
@[simp] theorem f_is_s {neg b M} : f_is neg (.d (.str b)) (.d .non) M = .ok (.d (.bl neg)) M := nrfl rfl
@[simp] theorem f_is_l {neg b M} : f_is neg (.d (.lst b)) (.d .non) M = .ok (.d (.bl neg)) M := nrfl rfl
@[simp] theorem f_is_t {neg b M} : f_is neg (.d (.tup b)) (.d .non) M = .ok (.d (.bl neg)) M := nrfl rfl
@[simp] theorem f_is_o {neg c b M} : f_is neg (.d (.obj c b)) (.d .non) M = .ok (.d (.bl neg)) M := nrfl rfl
@[simp] theorem pl_non {n} : D.pl n .non = true := by cases n <;> rfl
@[simp] theorem pl_bl {n b} : D.pl n (.bl b) = true := by cases n <;> rfl
@[simp] theorem pl_int {n b} : D.pl n (.int b) = true := by cases n <;> rfl
@[simp] theorem pl_str {n b} : D.pl n (.str b) = true := by cases n <;> rfl
@[simp] theorem pl_lst {n b} : D.pl (n + 1) (.lst b) = D.plA n b := nrfl rfl
@[simp] theorem pl_tup {n b} : D.pl (n + 1) (.tup b) = D.plA n b := nrfl rfl
@[simp] theorem plA_nil {n} : D.plA n [] = true := by cases n <;> rfl
@[simp] theorem plA_cons {n x xs} : D.plA n (x :: xs) = (D.pl n x && D.plA n xs) := by cases n <;> rfl
@[simp] theorem eqv_nn : D.eqv .non .non = true := nrfl rfl
@[simp] theorem eqv_bb {a b} : D.eqv (.bl a) (.bl b) = (a == b) := nrfl rfl
@[simp] theorem eqv_ii {a b} : D.eqv (.int a) (.int b) = (a == b) := nrfl rfl
@[simp] theorem eqv_ss {a b} : D.eqv (.str a) (.str b) = (a == b) := nrfl rfl
@[simp] theorem eqv_ll {a b} : D.eqv (.lst a) (.lst b) = D.eqvA a b := nrfl rfl
@[simp] theorem eqv_tt {a b} : D.eqv (.tup a) (.tup b) = D.eqvA a b := nrfl rfl
@[simp] theorem eqvA_nn : D.eqvA [] [] = true := nrfl rfl
@[simp] theorem eqvA_cc {x xs y ys} : D.eqvA (x :: xs) (y :: ys) = (D.eqv x y && D.eqvA xs ys) := nrfl rfl
@[simp] theorem eqvA_nc {y ys} : D.eqvA [] (y :: ys) = false := nrfl rfl
@[simp] theorem eqvA_cn {y ys} : D.eqvA (y :: ys) [] = false := nrfl rfl
def lenK (o : Option Nat) (M : Mem) : Res VD := match o with
  | some n => .ok (.d (.int n)) M
  | none => .fail
@[simp] theorem f_len_s {s M} : f_len [.d (.str s)] M = if s.length ≤ lim then .ok (.d (.int s.length)) M else .fail := by
  unfold f_len lenOf
  dsimp only
  split
  · rename_i n h
    split at h
    · rename_i hl
      cases h
      rw [if_pos hl]
    · cases h
  · rename_i h
    split at h
    · cases h
    · rename_i hl
      rw [if_neg hl]
@[simp] theorem f_len_l {s M} : f_len [.d (.lst s)] M = .ok (.d (.int s.length)) M := nrfl rfl
@[simp] theorem f_len_t {s M} : f_len [.d (.tup s)] M = .ok (.d (.int s.length)) M := nrfl rfl
@[simp] theorem f_int_i {i M} : f_int [.d (.int i)] M = .ok (.d (.int i)) M := nrfl rfl
@[simp] theorem f_int_b {i M} : f_int [.d (.bl i)] M = .ok (.d (.int (if i then 1 else 0))) M := nrfl rfl
@[simp] theorem f_abs_i {i M} : f_abs [.d (.int i)] M = .ok (.d (.int (if i < 0 then -i else i))) M := nrfl rfl
@[simp] theorem f_list_l {s M} : f_list [.d (.lst s)] M = .ok (.d (.lst s)) M := nrfl rfl
@[simp] theorem f_list_s {s M} : f_list [.d (.str s)] M = if s.length ≤ lim then .ok (.d (.lst (s.map fun c => .str [c]))) M else .fail := nrfl rfl
@[simp] theorem f_list_t {s M} : f_list [.d (.tup s)] M = .ok (.d (.lst s)) M := nrfl rfl
def blK (g : List Bool → Bool) (o : Option (List Bool)) (M : Mem) : Res VD := match o with
  | some bs => .ok (.d (.bl (g bs))) M
  | none => .fail
@[simp] theorem f_bls_l {g s M} : f_bls g [.d (.lst s)] M = blK g (blL s) M := nrfl rfl
@[simp] theorem blK_ok {g bs M} : blK g (some bs) M = .ok (.d (.bl (g bs))) M := nrfl rfl
@[simp] theorem blL_nil : blL [] = some [] := nrfl rfl
@[simp] theorem blL_cons {b r} : blL (.bl b :: r) = (blL r).map (b :: ·) := nrfl rfl
@[simp] theorem blL_map {α : Type} (g : α → Bool) : ∀ l : List α, blL (l.map fun x => .bl (g x)) = some (l.map g)
  | [] => rfl
  | x :: l => by simp [blL_map g l]
@[simp] theorem stL_nil : stL [] = some [] := nrfl rfl
@[simp] theorem stL_cons {b r} : stL (.str b :: r) = (stL r).map (b :: ·) := nrfl rfl
@[simp] theorem stL_map {α : Type} (g : α → List Nat) : ∀ l : List α, stL (l.map fun x => .str (g x)) = some (l.map g)
  | [] => rfl
  | x :: l => by simp [stL_map g l]
@[simp] theorem inL_nil : inL [] = some [] := nrfl rfl
@[simp] theorem inL_cons {b r} : inL (.int b :: r) = (inL r).map (b :: ·) := nrfl rfl
@[simp] theorem inL_map {α : Type} (g : α → Int) : ∀ l : List α, inL (l.map fun x => .int (g x)) = some (l.map g)
  | [] => rfl
  | x :: l => by simp [inL_map g l]
def ixK (o : Option D) (M : Mem) : Res VD := match o with
  | some d => .ok (.d d) M
  | none => .fail
@[simp] theorem ixK_ok {d M} : ixK (some d) M = .ok (.d d) M := nrfl rfl
@[simp] theorem f_ix_l {s i M} : f_ix (.d (.lst s)) (.d (.int i)) M = ixK (L2.atI s i) M := nrfl rfl
@[simp] theorem f_ix_t {s i M} : f_ix (.d (.tup s)) (.d (.int i)) M = ixK (L2.atI s i) M := nrfl rfl
def ixKs (o : Option Nat) (M : Mem) : Res VD := match o with
  | some c => .ok (.d (.str [c])) M
  | none => .fail
@[simp] theorem ixKs_ok {d M} : ixKs (some d) M = .ok (.d (.str [d])) M := nrfl rfl
@[simp] theorem f_ix_s {s i M} : f_ix (.d (.str s)) (.d (.int i)) M = if s.length ≤ lim then ixKs (L2.atI s i) M else .fail := nrfl rfl
def ixKa (o : Option MO) (i : Int) (M : Mem) : Res VD := match o with
  | some (.lst ds) => ixK (L2.atI ds i) M
  | _ => .fail
@[simp] theorem f_ix_a {j : Nat} {i : Int} {M : Mem} : f_ix (.adr j) (.d (.int i)) M = ixKa (M[j]?) i M := by
  unfold f_ix seqOf ixKa ixK
  dsimp only
  cases M[j]? with
  | none => rfl
  | some m => cases m <;> rfl
@[simp] theorem ixKa_ok {ds i M} : ixKa (some (.lst ds)) i M = ixK (L2.atI ds i) M := nrfl rfl
@[simp] theorem atI_0 {α : Type} {a : α} {l : List α} : L2.atI (a :: l) 0 = some a := by
  have e : (a :: l).length = l.length + 1 := nrfl rfl
  unfold L2.atI ixN
  rw [e, if_pos (by omega), if_pos (by omega)]
  rfl
theorem atI_nat' {α : Type} {l : List α} {n : Nat} {a : α} (h : l[n]? = some a) : L2.atI l (n : Int) = some a := by
  have hn := (List.getElem?_eq_some_iff.mp h).1
  unfold L2.atI ixN
  rw [if_pos (by omega), if_pos (by omega)]
  simpa using h
@[simp] theorem atI_1 {α : Type} {a0 a1 : α} {l : List α} : L2.atI (a0 :: a1 :: l) 1 = some a1 := atI_nat' (n := 1) rfl
@[simp] theorem atI_2 {α : Type} {a0 a1 a2 : α} {l : List α} : L2.atI (a0 :: a1 :: a2 :: l) 2 = some a2 := atI_nat' (n := 2) rfl
@[simp] theorem atI_3 {α : Type} {a0 a1 a2 a3 : α} {l : List α} : L2.atI (a0 :: a1 :: a2 :: a3 :: l) 3 = some a3 := atI_nat' (n := 3) rfl
@[simp] theorem atI_4 {α : Type} {a0 a1 a2 a3 a4 : α} {l : List α} : L2.atI (a0 :: a1 :: a2 :: a3 :: a4 :: l) 4 = some a4 := atI_nat' (n := 4) rfl
@[simp] theorem atI_5 {α : Type} {a0 a1 a2 a3 a4 a5 : α} {l : List α} : L2.atI (a0 :: a1 :: a2 :: a3 :: a4 :: a5 :: l) 5 = some a5 := atI_nat' (n := 5) rfl
@[simp] theorem atI_6 {α : Type} {a0 a1 a2 a3 a4 a5 a6 : α} {l : List α} : L2.atI (a0 :: a1 :: a2 :: a3 :: a4 :: a5 :: a6 :: l) 6 = some a6 := atI_nat' (n := 6) rfl
@[simp] theorem atI_7 {α : Type} {a0 a1 a2 a3 a4 a5 a6 a7 : α} {l : List α} : L2.atI (a0 :: a1 :: a2 :: a3 :: a4 :: a5 :: a6 :: a7 :: l) 7 = some a7 := atI_nat' (n := 7) rfl
@[simp] theorem atI_8 {α : Type} {a0 a1 a2 a3 a4 a5 a6 a7 a8 : α} {l : List α} : L2.atI (a0 :: a1 :: a2 :: a3 :: a4 :: a5 :: a6 :: a7 :: a8 :: l) 8 = some a8 := atI_nat' (n := 8) rfl
@[simp] theorem atI_9 {α : Type} {a0 a1 a2 a3 a4 a5 a6 a7 a8 a9 : α} {l : List α} : L2.atI (a0 :: a1 :: a2 :: a3 :: a4 :: a5 :: a6 :: a7 :: a8 :: a9 :: l) 9 = some a9 := atI_nat' (n := 9) rfl
/-! isinstance -/
def isiK (b : BT) (r : Res VD) : Res VD := r.bind fun v M1 => match vtOf M1 v with
  | some t => .ok (.d (.bl (t.isA b))) M1
  | none => .fail
def isiK2 (b b2 : BT) (r : Res VD) : Res VD := r.bind fun v M1 => match vtOf M1 v with
  | some t => .ok (.d (.bl (t.isA b || t.isA b2))) M1
  | none => .fail
@[simp] theorem e_isi_eq {b m ρ M} : e_isi b m ρ M = isiK b (m ρ M) := nrfl rfl
@[simp] theorem e_isi2_eq {b b2 m ρ M} : e_isi2 b b2 m ρ M = isiK2 b b2 (m ρ M) := nrfl rfl
@[simp] theorem isiK_n {b M} : isiK b (.ok (.d .non) M) = .ok (.d (.bl (VT.none.isA b))) M := nrfl rfl
@[simp] theorem isiK_b {b x M} : isiK b (.ok (.d (.bl x)) M) = .ok (.d (.bl (VT.bool.isA b))) M := nrfl rfl
@[simp] theorem isiK_i {b x M} : isiK b (.ok (.d (.int x)) M) = .ok (.d (.bl (VT.int.isA b))) M := nrfl rfl
@[simp] theorem isiK_s {b x M} : isiK b (.ok (.d (.str x)) M) = .ok (.d (.bl (VT.str.isA b))) M := nrfl rfl
@[simp] theorem isiK_l {b x M} : isiK b (.ok (.d (.lst x)) M) = .ok (.d (.bl (VT.list.isA b))) M := nrfl rfl
@[simp] theorem isiK_t {b x M} : isiK b (.ok (.d (.tup x)) M) = .ok (.d (.bl (VT.tuple.isA b))) M := nrfl rfl
@[simp] theorem isiK2_n {b c M} : isiK2 b c (.ok (.d .non) M) = .ok (.d (.bl (VT.none.isA b || VT.none.isA c))) M := nrfl rfl
@[simp] theorem isiK2_b {b c x M} : isiK2 b c (.ok (.d (.bl x)) M) = .ok (.d (.bl (VT.bool.isA b || VT.bool.isA c))) M := nrfl rfl
@[simp] theorem isiK2_i {b c x M} : isiK2 b c (.ok (.d (.int x)) M) = .ok (.d (.bl (VT.int.isA b || VT.int.isA c))) M := nrfl rfl
@[simp] theorem isiK2_s {b c x M} : isiK2 b c (.ok (.d (.str x)) M) = .ok (.d (.bl (VT.str.isA b || VT.str.isA c))) M := nrfl rfl
@[simp] theorem isiK2_l {b c x M} : isiK2 b c (.ok (.d (.lst x)) M) = .ok (.d (.bl (VT.list.isA b || VT.list.isA c))) M := nrfl rfl
@[simp] theorem isiK2_t {b c x M} : isiK2 b c (.ok (.d (.tup x)) M) = .ok (.d (.bl (VT.tuple.isA b || VT.tuple.isA c))) M := nrfl rfl
@[simp] theorem isA_bool_int : VT.isA .bool .int = true := nrfl rfl
@[simp] theorem isA_bool_bool : VT.isA .bool .bool = true := nrfl rfl
@[simp] theorem isA_bool_str : VT.isA .bool .str = false := nrfl rfl
@[simp] theorem isA_bool_list : VT.isA .bool .list = false := nrfl rfl
@[simp] theorem isA_bool_tuple : VT.isA .bool .tuple = false := nrfl rfl
@[simp] theorem isA_int_int : VT.isA .int .int = true := nrfl rfl
@[simp] theorem isA_int_bool : VT.isA .int .bool = false := nrfl rfl
@[simp] theorem isA_int_str : VT.isA .int .str = false := nrfl rfl
@[simp] theorem isA_int_list : VT.isA .int .list = false := nrfl rfl
@[simp] theorem isA_int_tuple : VT.isA .int .tuple = false := nrfl rfl
@[simp] theorem isA_str_int : VT.isA .str .int = false := nrfl rfl
@[simp] theorem isA_str_bool : VT.isA .str .bool = false := nrfl rfl
@[simp] theorem isA_str_str : VT.isA .str .str = true := nrfl rfl
@[simp] theorem isA_str_list : VT.isA .str .list = false := nrfl rfl
@[simp] theorem isA_str_tuple : VT.isA .str .tuple = false := nrfl rfl
@[simp] theorem isA_list_int : VT.isA .list .int = false := nrfl rfl
@[simp] theorem isA_list_bool : VT.isA .list .bool = false := nrfl rfl
@[simp] theorem isA_list_str : VT.isA .list .str = false := nrfl rfl
@[simp] theorem isA_list_list : VT.isA .list .list = true := nrfl rfl
@[simp] theorem isA_list_tuple : VT.isA .list .tuple = false := nrfl rfl
@[simp] theorem isA_tuple_int : VT.isA .tuple .int = false := nrfl rfl
@[simp] theorem isA_tuple_bool : VT.isA .tuple .bool = false := nrfl rfl
@[simp] theorem isA_tuple_str : VT.isA .tuple .str = false := nrfl rfl
@[simp] theorem isA_tuple_list : VT.isA .tuple .list = false := nrfl rfl
@[simp] theorem isA_tuple_tuple : VT.isA .tuple .tuple = true := nrfl rfl
@[simp] theorem isA_none_int : VT.isA .none .int = false := nrfl rfl
@[simp] theorem isA_none_bool : VT.isA .none .bool = false := nrfl rfl
@[simp] theorem isA_none_str : VT.isA .none .str = false := nrfl rfl
@[simp] theorem isA_none_list : VT.isA .none .list = false := nrfl rfl
@[simp] theorem isA_none_tuple : VT.isA .none .tuple = false := nrfl rfl
/-! slices -/
def slK (r : Res VD) (lo hi : Mx (Option Int)) (ρ : Env) : Res VD := r.bind fun x M1 => (lo ρ M1).bind fun l M2 => (hi ρ M2).bind fun h M3 => f_sl x l h M3
def slK2 (x : VD) (r : Res (Option Int)) (hi : Mx (Option Int)) (ρ : Env) : Res VD := r.bind fun l M2 => (hi ρ M2).bind fun h M3 => f_sl x l h M3
def slK3 (x : VD) (l : Option Int) (r : Res (Option Int)) : Res VD := r.bind fun h M3 => f_sl x l h M3
@[simp] theorem e_sl_eq {a lo hi ρ M} : e_sl a lo hi ρ M = slK (a ρ M) lo hi ρ := nrfl rfl
@[simp] theorem slK_ok {x M lo hi ρ} : slK (.ok x M) lo hi ρ = slK2 x (lo ρ M) hi ρ := nrfl rfl
@[simp] theorem slK2_ok {x l M hi ρ} : slK2 x (.ok l M) hi ρ = slK3 x l (hi ρ M) := nrfl rfl
@[simp] theorem slK3_ok {x l h M} : slK3 x l (.ok h M) = f_sl x l h M := nrfl rfl
@[simp] theorem o_none_eq {ρ M} : o_none ρ M = .ok none M := nrfl rfl
def osK (r : Res VD) : Res (Option Int) := r.bind fun v M1 => match v with
  | .d (.int i) => .ok (some i) M1
  | _ => .fail
@[simp] theorem o_some_eq {a ρ M} : o_some a ρ M = osK (a ρ M) := nrfl rfl
@[simp] theorem osK_ok {i M} : osK (.ok (.d (.int i)) M) = .ok (some i) M := nrfl rfl
@[simp] theorem f_sl_s {s l h M} : f_sl (.d (.str s)) l h M = if s.length ≤ lim then .ok (.d (.str (cut s l h))) M else .fail := nrfl rfl
@[simp] theorem f_sl_t {s l h M} : f_sl (.d (.tup s)) l h M = .ok (.d (.tup (cut s l h))) M := nrfl rfl
@[simp] theorem f_sl_l {s l h M} : f_sl (.d (.lst s)) l h M = .ok (.d (.lst (cut s l h))) M := nrfl rfl
@[simp] theorem f_sl_r {s l h M} : f_sl (.d (.scr s)) l h M = .ok (.d (.lst (cut (s.map .int) l h))) M := nrfl rfl
/-! what is walked, comprehensions -/
def anyK (r : Res VD) : Res (List D) := r.bind anyI
@[simp] theorem i_any_eq {a ρ M} : i_any a ρ M = anyK (a ρ M) := nrfl rfl
@[simp] theorem anyK_l {s M} : anyK (.ok (.d (.lst s)) M) = .ok s M := nrfl rfl
@[simp] theorem anyK_t {s M} : anyK (.ok (.d (.tup s)) M) = .ok s M := nrfl rfl
@[simp] theorem anyK_s {s M} : anyK (.ok (.d (.str s)) M) = .ok (chars s) M := nrfl rfl
noncomputable def rngK1 (r : Res (List VD)) : Res (List D) := r.bind fun vs M1 => match vs with
  | [.d (.int j)] => gi (-(2 ^ 60) < j ∧ j < 2 ^ 60) (.ok (range 0 j.toNat) M1) .fail
  | _ => .fail
noncomputable def rngK2 (r : Res (List VD)) : Res (List D) := r.bind fun vs M1 => match vs with
  | [.d (.int i), .d (.int j)] => gi ((-(2 ^ 60) < i ∧ i < 2 ^ 60) ∧ (-(2 ^ 60) < j ∧ j < 2 ^ 60)) (.ok (range i (j - i).toNat) M1) .fail
  | _ => .fail
@[simp] theorem i_rng1_eq {a ρ M} : i_rng1 a ρ M = rngK1 (a ρ M) := nrfl rfl
@[simp] theorem i_rng2_eq {a ρ M} : i_rng2 a ρ M = rngK2 (a ρ M) := nrfl rfl
theorem rngK1_ok {j M} : rngK1 (.ok [.d (.int j)] M) = gi (-(2 ^ 60) < j ∧ j < 2 ^ 60) (.ok (range 0 j.toNat) M) .fail := nrfl rfl
theorem rngK2_ok {i j M} : rngK2 (.ok [.d (.int i), .d (.int j)] M) = gi ((-(2 ^ 60) < i ∧ i < 2 ^ 60) ∧ (-(2 ^ 60) < j ∧ j < 2 ^ 60)) (.ok (range i (j - i).toNat) M) .fail := nrfl rfl
@[simp] theorem rngK1_int {j : Int} {M} (h0 : 0 ≤ j) (h1 : j ≤ 1000000) : rngK1 (.ok [.d (.int j)] M) = .ok (range 0 j.toNat) M := by
  rw [rngK1_ok, gi_pos ⟨by omega, by omega⟩]
theorem rngK1_nat {n : Nat} {M} (h : n ≤ lim) : rngK1 (.ok [.d (.int n)] M) = .ok (range 0 n) M := by
  unfold lim at h
  rw [rngK1_int (by omega) (by omega)]
  simp
@[simp] theorem rngK2_int {i j : Int} {M} (h0 : 0 ≤ i) (h1 : i ≤ 1000000) (h2 : 0 ≤ j) (h3 : j ≤ 1000000) : rngK2 (.ok [.d (.int i), .d (.int j)] M) = .ok (range i (j - i).toNat) M := by
  rw [rngK2_ok, gi_pos ⟨⟨by omega, by omega⟩, ⟨by omega, by omega⟩⟩]
def enumK (r : Res (List VD)) : Res (List D) := r.bind fun vs M1 => match vs with
  | [.d (.lst ds)] => .ok (enumL ds 0) M1
  | _ => .fail
@[simp] theorem i_enum_eq {a ρ M} : i_enum a ρ M = enumK (a ρ M) := nrfl rfl
@[simp] theorem enumK_ok {ds M} : enumK (.ok [.d (.lst ds)] M) = .ok (enumL ds 0) M := nrfl rfl
def zipK (r : Res (List VD)) : Res (List D) := r.bind zipI
@[simp] theorem i_zip_eq {a ρ M} : i_zip a ρ M = zipK (a ρ M) := nrfl rfl
@[simp] theorem zipK_l {a b M} : zipK (.ok [.d (.lst a), .d (.lst b)] M) = .ok (zipL a b) M := nrfl rfl
@[simp] theorem zipK_t {a b M} : zipK (.ok [.d (.tup a), .d (.tup b)] M) = .ok (zipL a b) M := nrfl rfl
def compK (r : Res (List D)) (turn : D → Mem → Res (Option D)) : Res VD := r.bind fun items M1 => (compL turn items M1 []).bind fun ds M2 => .ok (.d (.lst ds)) M2
def compK2 (r : Res (List D)) : Res VD := r.bind fun ds M2 => .ok (.d (.lst ds)) M2
@[simp] theorem e_comp_eq {vs mi mg mt me ρ M} : e_comp vs mi mg mt me ρ M = compK (mi ρ M) (cTurn vs mg mt me ρ) := nrfl rfl
@[simp] theorem compK_ok {items M turn} : compK (.ok items M) turn = compK2 (compL turn items M []) := nrfl rfl
@[simp] theorem compK2_ok {ds M} : compK2 (.ok ds M) = .ok (.d (.lst ds)) M := nrfl rfl
@[simp] theorem compL_nil {turn M acc} : compL turn [] M acc = .ok acc M := nrfl rfl
def clK (r : Res (Option D)) (turn : D → Mem → Res (Option D)) (xs acc : List D) : Res (List D) := match r with
    | .ok (some d) M1 => if acc.length < lim then compL turn xs M1 (acc ++ [d]) else .fail
    | .ok none M1 => compL turn xs M1 acc
    | _ => .fail
theorem compL_cons {turn x xs M acc} : compL turn (x :: xs) M acc = clK (turn x M) turn xs acc := nrfl rfl
@[simp] theorem clK_some {d M turn xs acc} : clK (.ok (some d) M) turn xs acc = if acc.length < lim then compL turn xs M (acc ++ [d]) else .fail := nrfl rfl
@[simp] theorem clK_none {M turn xs acc} : clK (.ok none M) turn xs acc = compL turn xs M acc := nrfl rfl
def ctK (o : Option Env) (mt : Mx Bool) (me : Mx VD) (M : Mem) : Res (Option D) := match o with
  | none => .fail
  | some ρ2 => match mt ρ2 M with
    | .ok true M2 => match me ρ2 M2 with
      | .ok (.d x) M3 => .ok (some x) M3
      | _ => .fail
    | .ok false M2 => .ok none M2
    | _ => .fail
def ctK2 (r : Res Bool) (me : Mx VD) (ρ2 : Env) : Res (Option D) := match r with
    | .ok true M2 => match me ρ2 M2 with
      | .ok (.d x) M3 => .ok (some x) M3
      | _ => .fail
    | .ok false M2 => .ok none M2
    | _ => .fail
def ctK3 (r : Res VD) : Res (Option D) := match r with
      | .ok (.d x) M3 => .ok (some x) M3
      | _ => .fail
@[simp] theorem cTurn_eq {vs mg mt me ρ d M} : cTurn vs mg mt me ρ d M = ctK (mg (.d d) (wipeE ρ vs)) mt me M := nrfl rfl
@[simp] theorem ctK_ok {ρ2 mt me M} : ctK (some ρ2) mt me M = ctK2 (mt ρ2 M) me ρ2 := nrfl rfl
@[simp] theorem ctK2_t {M me ρ2} : ctK2 (.ok true M) me ρ2 = ctK3 (me ρ2 M) := nrfl rfl
@[simp] theorem ctK2_f {M me ρ2} : ctK2 (.ok false M) me ρ2 = .ok none M := nrfl rfl
@[simp] theorem ctK3_ok {x M} : ctK3 (.ok (.d x) M) = .ok (some x) M := nrfl rfl
@[simp] theorem e_yes_eq {ρ M} : e_yes ρ M = .ok true M := nrfl rfl
@[simp] theorem wipeE_nil {ρ} : wipeE ρ [] = ρ := nrfl rfl
@[simp] theorem wipeE_cons {ρ : Env} {v vs} : wipeE ρ (v :: vs) = (wipeE ρ vs).set v none := nrfl rfl
/-- a comprehension that does nothing but map -/
theorem compL_map {turn : D → Mem → Res (Option D)} {M : Mem} (g : D → D) : ∀ (xs acc : List D), (∀ x ∈ xs, turn x M = .ok (some (g x)) M) → acc.length + xs.length ≤ lim → compL turn xs M acc = .ok (acc ++ xs.map g) M
  | [], acc, _, _ => by simp
  | x :: xs, acc, h, hl => by
    rw [compL_cons, h x List.mem_cons_self, clK_some, if_pos (by simp at hl; omega), compL_map g xs _ (fun y hy => h y (List.mem_cons_of_mem _ hy)) (by simp at hl ⊢; omega)]
    simp
/-- .. map and filter -/
theorem compL_filter {turn : D → Mem → Res (Option D)} {M : Mem} (p : D → Bool) (g : D → D) : ∀ (xs acc : List D), (∀ x ∈ xs, turn x M = .ok (if p x then some (g x) else none) M) → acc.length + xs.length ≤ lim → compL turn xs M acc = .ok (acc ++ (xs.filter p).map g) M
  | [], acc, _, _ => by simp
  | x :: xs, acc, h, hl => by
    rw [compL_cons, h x List.mem_cons_self]
    cases q : p x with
    | true =>
      rw [if_pos rfl, clK_some, if_pos (by simp at hl; omega), compL_filter p g xs _ (fun y hy => h y (List.mem_cons_of_mem _ hy)) (by simp at hl ⊢; omega)]
      simp [q]
    | false =>
      rw [if_neg Bool.false_ne_true, clK_none, compL_filter p g xs _ (fun y hy => h y (List.mem_cons_of_mem _ hy)) (by simp at hl ⊢; omega)]
      simp [q]
/-! targets, statements -/
@[simp] theorem g_name_eq {i v} {ρ : Env} : g_name i v ρ = some (ρ.set i (some v)) := nrfl rfl
@[simp] theorem g_nil_eq {ρ} : g_nil [] ρ = some ρ := nrfl rfl
def gK (o : Option Env) (gs : List VD → Env → Option Env) (vs : List VD) : Option Env := o.bind (gs vs)
@[simp] theorem g_cons_eq {g gs v vs ρ} : g_cons g gs (v :: vs) ρ = gK (g v ρ) gs vs := nrfl rfl
@[simp] theorem gK_ok {ρ gs vs} : gK (some ρ) gs vs = gs vs ρ := nrfl rfl
@[simp] theorem g_tup_eq {n gs ds ρ} : g_tup n gs (.d (.tup ds)) ρ = if ds.length = n then gs (ds.map .d) ρ else none := nrfl rfl
def seqK (o : Out) (b : Sx) : Out := o.seq b
@[simp] theorem s_seq_eq {a b ρ M} : s_seq a b ρ M = seqK (a ρ M) b := nrfl rfl
@[simp] theorem seqK_nx {ρ M b} : seqK (.nx ρ M) b = b ρ M := nrfl rfl
@[simp] theorem seqK_ret {v M b} : seqK (.ret v M) b = .ret v M := nrfl rfl
@[simp] theorem seqK_brk {v M b} : seqK (.brk v M) b = .brk v M := nrfl rfl
@[simp] theorem seqK_ct {v M b} : seqK (.ct v M) b = .ct v M := nrfl rfl
@[simp] theorem s_skip_eq {ρ M} : s_skip ρ M = .nx ρ M := nrfl rfl
@[simp] theorem s_brk_eq {ρ M} : s_brk ρ M = .brk ρ M := nrfl rfl
@[simp] theorem s_ct_eq {ρ M} : s_ct ρ M = .ct ρ M := nrfl rfl
@[simp] theorem s_retN_eq {ρ M} : s_retN ρ M = .ret (.d .non) M := nrfl rfl
def retK (r : Res VD) : Out := r.out fun v M1 => .ret v M1
@[simp] theorem s_ret_eq {m ρ M} : s_ret m ρ M = retK (m ρ M) := nrfl rfl
@[simp] theorem retK_ok {v M} : retK (.ok v M) = .ret v M := nrfl rfl
def exprK (r : Res VD) (ρ : Env) : Out := r.out fun _ M1 => .nx ρ M1
@[simp] theorem s_expr_eq {m ρ M} : s_expr m ρ M = exprK (m ρ M) ρ := nrfl rfl
@[simp] theorem exprK_ok {v M ρ} : exprK (.ok v M) ρ = .nx ρ M := nrfl rfl
def asgK (r : Res VD) (mg : VD → Env → Option Env) (ρ : Env) : Out := r.out fun v M1 => match mg v ρ with
  | some ρ' => .nx ρ' M1
  | none => .fail
def asgK2 (o : Option Env) (M : Mem) : Out := match o with
  | some ρ' => .nx ρ' M
  | none => .fail
@[simp] theorem s_asg_eq {m mg ρ M} : s_asg m mg ρ M = asgK (m ρ M) mg ρ := nrfl rfl
@[simp] theorem asgK_ok {v M mg ρ} : asgK (.ok v M) mg ρ = asgK2 (mg v ρ) M := nrfl rfl
@[simp] theorem asgK2_ok {ρ M} : asgK2 (some ρ) M = .nx ρ M := nrfl rfl
def sifK (r : Res Bool) (a b : Sx) (ρ : Env) : Out := r.out fun c M1 => if c then a ρ M1 else b ρ M1
@[simp] theorem s_if_eq {t a b ρ M} : s_if t a b ρ M = sifK (t ρ M) a b ρ := nrfl rfl
@[simp] theorem sifK_t {a b ρ M} : sifK (.ok true M) a b ρ = a ρ M := nrfl rfl
@[simp] theorem sifK_f {a b ρ M} : sifK (.ok false M) a b ρ = b ρ M := nrfl rfl
def parK (i j : Nat) (r : Res (List VD)) (ρ : Env) : Out := r.out fun vs M1 => match vs with
  | [a, b] => .nx ((ρ.set i (some a)).set j (some b)) M1
  | _ => .fail
@[simp] theorem s_par_eq {i j ms ρ M} : s_par i j ms ρ M = parK i j (ms ρ M) ρ := nrfl rfl
@[simp] theorem parK_ok {i j a b M} {ρ : Env} : parK i j (.ok [a, b] M) ρ = .nx ((ρ.set i (some a)).set j (some b)) M := nrfl rfl
def forK (r : Res (List D)) (mg : VD → Env → Option Env) (body : Sx) (ρ : Env) : Out := r.out fun items M1 => forL mg body items ρ M1
@[simp] theorem s_for_eq {mi mg body ρ M} : s_for mi mg body ρ M = forK (mi ρ M) mg body ρ := nrfl rfl
@[simp] theorem forK_ok {items M mg body ρ} : forK (.ok items M) mg body ρ = forL mg body items ρ M := nrfl rfl
@[simp] theorem forL_nil {mg body ρ M} : forL mg body [] ρ M = .nx ρ M := nrfl rfl
def flK (o : Option Env) (mg : VD → Env → Option Env) (body : Sx) (xs : List D) (M : Mem) : Out := match o with
    | none => .fail
    | some ρ1 => match body ρ1 M with
      | .nx ρ2 M2 => forL mg body xs ρ2 M2
      | .ct ρ2 M2 => forL mg body xs ρ2 M2
      | .brk ρ2 M2 => .nx ρ2 M2
      | o => o
def flK2 (o : Out) (mg : VD → Env → Option Env) (body : Sx) (xs : List D) : Out := match o with
      | .nx ρ2 M2 => forL mg body xs ρ2 M2
      | .ct ρ2 M2 => forL mg body xs ρ2 M2
      | .brk ρ2 M2 => .nx ρ2 M2
      | o => o
theorem forL_cons {mg body x xs ρ M} : forL mg body (x :: xs) ρ M = flK (mg (.d x) ρ) mg body xs M := nrfl rfl
@[simp] theorem flK_ok {ρ mg body xs M} : flK (some ρ) mg body xs M = flK2 (body ρ M) mg body xs := nrfl rfl
@[simp] theorem flK2_nx {ρ M mg body xs} : flK2 (.nx ρ M) mg body xs = forL mg body xs ρ M := nrfl rfl
@[simp] theorem flK2_ct {ρ M mg body xs} : flK2 (.ct ρ M) mg body xs = forL mg body xs ρ M := nrfl rfl
@[simp] theorem flK2_brk {ρ M mg body xs} : flK2 (.brk ρ M) mg body xs = .nx ρ M := nrfl rfl
@[simp] theorem flK2_ret {v M mg body xs} : flK2 (.ret v M) mg body xs = .ret v M := nrfl rfl
def setiK (r : Res VD) (o i : Mx VD) (ρ : Env) : Out := r.out fun v M1 => (o ρ M1).out fun x M2 => (i ρ M2).out fun y M3 => (f_seti v x y M3).out fun _ M4 => .nx ρ M4
def setiK2 (v : VD) (r : Res VD) (i : Mx VD) (ρ : Env) : Out := r.out fun x M2 => (i ρ M2).out fun y M3 => (f_seti v x y M3).out fun _ M4 => .nx ρ M4
def setiK3 (v x : VD) (r : Res VD) (ρ : Env) : Out := r.out fun y M3 => (f_seti v x y M3).out fun _ M4 => .nx ρ M4
def setiK4 (r : Res Unit) (ρ : Env) : Out := r.out fun _ M4 => .nx ρ M4
@[simp] theorem s_seti_eq {m o i ρ M} : s_seti m o i ρ M = setiK (m ρ M) o i ρ := nrfl rfl
@[simp] theorem setiK_ok {v M o i ρ} : setiK (.ok v M) o i ρ = setiK2 v (o ρ M) i ρ := nrfl rfl
@[simp] theorem setiK2_ok {v x M i ρ} : setiK2 v (.ok x M) i ρ = setiK3 v x (i ρ M) ρ := nrfl rfl
@[simp] theorem setiK3_ok {v x y M ρ} : setiK3 v x (.ok y M) ρ = setiK4 (f_seti v x y M) ρ := nrfl rfl
@[simp] theorem setiK4_ok {M ρ} : setiK4 (.ok () M) ρ = .nx ρ M := nrfl rfl
def setiV (o : Option MO) (d : D) (j : Nat) (i : Int) (M : Mem) : Res Unit := match o with
    | some (.lst ds) => match ixN ds.length i with
      | some n => .ok () (M.set j (.lst (ds.set n d)))
      | none => .fail
    | _ => .fail
def setiV2 (o : Option Nat) (ds : List D) (d : D) (j : Nat) (M : Mem) : Res Unit := match o with
      | some n => .ok () (M.set j (.lst (ds.set n d)))
      | none => .fail
@[simp] theorem f_seti_eq {d} {j : Nat} {i} {M : Mem} : f_seti (.d d) (.adr j) (.d (.int i)) M = setiV (M[j]?) d j i M := nrfl rfl
@[simp] theorem setiV_ok {ds d j i M} : setiV (some (.lst ds)) d j i M = setiV2 (ixN ds.length i) ds d j M := nrfl rfl
@[simp] theorem setiV2_ok {n ds d j} {M : Mem} : setiV2 (some n) ds d j M = .ok () (M.set j (.lst (ds.set n d))) := nrfl rfl
/-! append, join -/
def appK (r : Res VD) (b : Mx VD) (ρ : Env) : Res VD := r.bind fun x M1 => match lstOf M1 x with
  | some _ => (b ρ M1).bind fun v M2 => f_app x v M2
  | none => .fail
def appK1 (o : Option (List D)) (x : VD) (b : Mx VD) (ρ : Env) (M : Mem) : Res VD := match o with
  | some _ => (b ρ M).bind fun v M2 => f_app x v M2
  | none => .fail
def appK2 (x : VD) (r : Res VD) : Res VD := r.bind fun v M2 => f_app x v M2
@[simp] theorem e_app_eq {a b ρ M} : e_app a b ρ M = appK (a ρ M) b ρ := nrfl rfl
@[simp] theorem appK_ok {x M b ρ} : appK (.ok x M) b ρ = appK1 (lstOf M x) x b ρ M := nrfl rfl
@[simp] theorem appK1_ok {ds x b ρ M} : appK1 (some ds) x b ρ M = appK2 x (b ρ M) := nrfl rfl
@[simp] theorem appK2_ok {x v M} : appK2 x (.ok v M) = f_app x v M := nrfl rfl
def lstOfK : Option MO → Option (List D)
  | some (.lst ds) => some ds
  | _ => none
@[simp] theorem lstOf_a {i : Nat} {M : Mem} : lstOf M (.adr i) = lstOfK (M[i]?) := by
  unfold lstOf lstOfK
  rfl
@[simp] theorem lstOfK_ok {ds} : lstOfK (some (.lst ds)) = some ds := nrfl rfl
def fappK (o : Option MO) (j : Nat) (d : D) (M : Mem) : Res VD := match o with
    | some (.lst ds) => if ds.length < lim then .ok (.d .non) (M.set j (.lst (ds ++ [d]))) else .fail
    | _ => .fail
@[simp] theorem f_app_eq {j : Nat} {d} {M : Mem} : f_app (.adr j) (.d d) M = fappK (M[j]?) j d M := nrfl rfl
@[simp] theorem fappK_ok {ds j d} {M : Mem} : fappK (some (.lst ds)) j d M = if ds.length < lim then .ok (.d .non) (M.set j (.lst (ds ++ [d]))) else .fail := nrfl rfl
def m1K (f : VD → VD → Mem → Res VD) (r : Res VD) (b : Mx VD) (ρ : Env) : Res VD := r.bind fun x M1 => if isStr x then (b ρ M1).bind fun y M2 => f x y M2 else .fail
@[simp] theorem e_m1_eq {f a b ρ M} : e_m1 f a b ρ M = m1K f (a ρ M) b ρ := nrfl rfl
@[simp] theorem m1K_ok {f s M b ρ} : m1K f (.ok (.d (.str s)) M) b ρ = opK2 f (.d (.str s)) (b ρ M) := nrfl rfl
def joinK (sep : List Nat) (o : Option (List (List Nat))) (M : Mem) : Res VD := match o with
    | some ss => if szs ss + ss.length * sep.length ≤ lim then .ok (.d (.str (TL.joinL sep ss))) M else .fail
    | none => .fail
@[simp] theorem f_join_l {sep ds M} : f_join (.d (.str sep)) (.d (.lst ds)) M = joinK sep (stL ds) M := nrfl rfl
@[simp] theorem joinK_ok {sep ss M} : joinK sep (some ss) M = if szs ss + ss.length * sep.length ≤ lim then .ok (.d (.str (TL.joinL sep ss))) M else .fail := nrfl rfl
@[simp] theorem f_srt_s {s M} : f_srt [.d (.str s)] M = if s.length < 63 then .ok (.d (.lst ((sortU s).map fun c => .str [c]))) M else .fail := nrfl rfl
def revK (r : Res VD) : Res VD := r.bind f_rev
@[simp] theorem e_rev_eq {m : Mx VD} {ρ M} : e_rev m ρ M = revK (m ρ M) := nrfl rfl
@[simp] theorem revK_s {s M} : revK (.ok (.d (.str s)) M) = if s.length ≤ lim then .ok (.d (.str s.reverse)) M else .fail := nrfl rfl
def addOK (o o2 : Option (List D)) (M : Mem) : Res VD := match o, o2 with
  | some s, some t => if s.length + t.length ≤ lim then .ok (.adr M.length) (M ++ [.lst (s ++ t)]) else .fail
  | _, _ => .fail
@[simp] theorem f_addO_eq {a b M} : f_addO a b M = addOK (lstOf M a) (lstOf M b) M := nrfl rfl
@[simp] theorem addOK_ok {s t M} : addOK (some s) (some t) M = if s.length + t.length ≤ lim then .ok (.adr M.length) (M ++ [.lst (s ++ t)]) else .fail := nrfl rfl
@[simp] theorem lstOf_d {s M} : lstOf M (.d (.lst s)) = some s := nrfl rfl
/-! freezing -/
def frzK (o : Option (Env × Mem)) (s : Sx) : Out := match o with
  | some (ρ1, M1) => s ρ1 M1
  | none => .fail
@[simp] theorem s_frz_eq {i s ρ M} : s_frz i s ρ M = frzK (frz1 i ρ M) s := nrfl rfl
@[simp] theorem frzK_ok {ρ M s} : frzK (some (ρ, M)) s = s ρ M := nrfl rfl
/-! defs -/
def fnK (n : Nat) (o : Out) : Res VD := trim n (nox (match o with
  | .nx _ M1 => .ok (.d .non) M1
  | .ret v M1 => .ok v M1
  | .exc c fs M1 => .exc c fs M1
  | _ => .fail))
theorem fnM_eq {n body ds M} : fnM n body ds M = fnK M.length (body (ds.map some ++ List.replicate (n - ds.length) none) M) := nrfl rfl
@[simp] theorem fnK_ret {n v M} : fnK n (.ret v M) = trim n (.ok v M) := nrfl rfl
@[simp] theorem fnK_nx {n ρ M} : fnK n (.nx ρ M) = trim n (.ok (.d .non) M) := nrfl rfl
theorem trim_same {n : Nat} {v : VD} {M : Mem} (h : M.length ≤ n) : trim n (.ok v M) = .ok v M := by
  unfold trim
  dsimp only
  split
  · rw [List.take_of_length_le h]
  · rfl
@[simp] theorem trim_same' {v : VD} {M : Mem} : trim M.length (.ok v M) = .ok v M := trim_same (Nat.le_refl _)
end G

namespace G
open PySem PySem.Spec PyProof.Rows L2
theorem ifl {α : Sort _} {a b : Nat} {x y : α} (h : a ≤ b) : (if a ≤ b then x else y) = x := if_pos h
theorem ifL {α : Sort _} {a b : Nat} {x y : α} (h : a < b) : (if a < b then x else y) = x := if_pos h
theorem orK_bl {b : Mx VD} {ρ : Env} {M : Mem} {x y : Bool} (h : b ρ M = .ok (.d (.bl y)) M) : orK (.ok (.d (.bl x)) M) b ρ = .ok (.d (.bl (x || y))) M := by
  cases x with
  | true => rfl
  | false => exact h
theorem andK_bl {b : Mx VD} {ρ : Env} {M : Mem} {x y : Bool} (h : b ρ M = .ok (.d (.bl y)) M) : andK (.ok (.d (.bl x)) M) b ρ = .ok (.d (.bl (x && y))) M := by
  cases x with
  | true => exact h
  | false => rfl
/-- what a statement's end must keep: gone on, returned, continued, broken off -/
def OcD (o : Out) (P : Env → Mem → Prop) (R : VD → Mem → Prop) (Ct B : Env → Mem → Prop) : Prop := match o with
  | .nx ρ M => P ρ M
  | .ret v M => R v M
  | .ct ρ M => Ct ρ M
  | .brk ρ M => B ρ M
  | _ => False
/-- a structure, so that no reduction starts at it -/
structure Oc (o : Out) (P : Env → Mem → Prop) (R : VD → Mem → Prop) (Ct B : Env → Mem → Prop) : Prop where
  go : OcD o P R Ct B
section
variable {P : Env → Mem → Prop} {R : VD → Mem → Prop} {Ct B : Env → Mem → Prop}
theorem Oc_eq {o : Out} : Oc o P R Ct B = OcD o P R Ct B := propext ⟨Oc.go, Oc.mk⟩
@[simp] theorem Oc_nx {ρ M} : Oc (.nx ρ M) P R Ct B = P ρ M := Oc_eq
@[simp] theorem Oc_ret {v M} : Oc (.ret v M) P R Ct B = R v M := Oc_eq
@[simp] theorem Oc_ct {ρ M} : Oc (.ct ρ M) P R Ct B = Ct ρ M := Oc_eq
@[simp] theorem Oc_brk {ρ M} : Oc (.brk ρ M) P R Ct B = B ρ M := Oc_eq
theorem Oc.mono {o : Out} {P' : Env → Mem → Prop} {R' : VD → Mem → Prop} {Ct' B' : Env → Mem → Prop} (h : Oc o P R Ct B) (hp : ∀ ρ M, P ρ M → P' ρ M) (hr : ∀ v M, R v M → R' v M) (hc : ∀ ρ M, Ct ρ M → Ct' ρ M) (hb : ∀ ρ M, B ρ M → B' ρ M) : Oc o P' R' Ct' B' := by
  cases o with
  | nx ρ M => exact ⟨hp _ _ h.go⟩
  | ret v M => exact ⟨hr _ _ h.go⟩
  | ct ρ M => exact ⟨hc _ _ h.go⟩
  | brk ρ M => exact ⟨hb _ _ h.go⟩
  | exc c fs M => exact h.go.elim
  | fail => exact h.go.elim
theorem Oc.seq {o : Out} {s : Sx} (h : Oc o (fun ρ M => Oc (s ρ M) P R Ct B) R Ct B) : Oc (seqK o s) P R Ct B := by
  cases o with
  | nx ρ M => exact h.go
  | ret v M => exact ⟨h.go⟩
  | ct ρ M => exact ⟨h.go⟩
  | brk ρ M => exact ⟨h.go⟩
  | exc c fs M => exact h.go.elim
  | fail => exact h.go.elim
/-- a turn -/
def tn (o : Option Env) (body : Sx) (M : Mem) : Out := match o with
  | some ρ => body ρ M
  | none => .fail
@[simp] theorem tn_ok {ρ body M} : tn (some ρ) body M = body ρ M := rfl
theorem Oc.for {mg : VD → Env → Option Env} {body : Sx} (I : Env → Mem → Prop) : ∀ (items : List D), (∀ x ∈ items, ∀ ρ M, I ρ M → Oc (tn (mg (.d x) ρ) body M) I R I P) → (∀ ρ M, I ρ M → P ρ M) → ∀ ρ M, I ρ M → Oc (forL mg body items ρ M) P R Ct B
  | [], _, hp, ρ, M, h => ⟨hp ρ M h⟩
  | x :: xs, hs, hp, ρ, M, h => by
    have h1 := hs x List.mem_cons_self ρ M h
    have go := fun ρ2 M2 h2 => Oc.for I xs (fun y hy => hs y (List.mem_cons_of_mem _ hy)) hp ρ2 M2 h2
    rw [forL_cons]
    cases e : mg (.d x) ρ with
    | none => rw [e] at h1; exact h1.go.elim
    | some ρ1 =>
      rw [e, tn_ok] at h1
      rw [flK_ok]
      cases e2 : body ρ1 M with
      | nx ρ2 M2 => rw [e2] at h1; exact go _ _ h1.go
      | ret v M2 => rw [e2] at h1; exact ⟨h1.go⟩
      | ct ρ2 M2 => rw [e2] at h1; exact go _ _ h1.go
      | brk ρ2 M2 => rw [e2] at h1; exact ⟨h1.go⟩
      | exc c fs M2 => rw [e2] at h1; exact h1.go.elim
      | fail => rw [e2] at h1; exact h1.go.elim
/-- .. with a count -/
theorem Oc.cnt {mg : VD → Env → Option Env} {body : Sx} (I : Nat → Env → Mem → Prop) : ∀ (items : List D) (k : Nat), (∀ i x, items[i]? = some x → ∀ ρ M, I (k + i) ρ M → Oc (tn (mg (.d x) ρ) body M) (I (k + i + 1)) R (I (k + i + 1)) P) → (∀ ρ M, I (k + items.length) ρ M → P ρ M) → ∀ ρ M, I k ρ M → Oc (forL mg body items ρ M) P R Ct B
  | [], k, _, hp, ρ, M, h => ⟨hp ρ M h⟩
  | x :: xs, k, hs, hp, ρ, M, h => by
    have h1 := hs 0 x rfl ρ M h
    have go := fun ρ2 M2 h2 => Oc.cnt I xs (k + 1) (fun i y hy => by
      have := hs (i + 1) y (by simpa using hy)
      rw [show k + (i + 1) = k + 1 + i by omega] at this
      exact this) (fun ρ M h => hp ρ M (by rw [List.length_cons, show k + (xs.length + 1) = k + 1 + xs.length by omega]; exact h)) ρ2 M2 h2
    rw [forL_cons]
    cases e : mg (.d x) ρ with
    | none => rw [e] at h1; exact h1.go.elim
    | some ρ1 =>
      rw [e, tn_ok] at h1
      rw [flK_ok]
      cases e2 : body ρ1 M with
      | nx ρ2 M2 => rw [e2] at h1; exact go _ _ h1.go
      | ret v M2 => rw [e2] at h1; exact ⟨h1.go⟩
      | ct ρ2 M2 => rw [e2] at h1; exact go _ _ h1.go
      | brk ρ2 M2 => rw [e2] at h1; exact ⟨h1.go⟩
      | exc c fs M2 => rw [e2] at h1; exact h1.go.elim
      | fail => rw [e2] at h1; exact h1.go.elim
theorem Oc.seq' {o : Out} {s : Sx} (Q : Env → Mem → Prop) (h : Oc o Q R Ct B) (hs : ∀ ρ M, Q ρ M → Oc (s ρ M) P R Ct B) : Oc (seqK o s) P R Ct B :=
  Oc.seq (h.mono hs (fun _ _ h => h) (fun _ _ h => h) (fun _ _ h => h))
theorem Oc.forS {mg : VD → Env → Option Env} {body s : Sx} {items : List D} {ρ : Env} {M : Mem} (I : Env → Mem → Prop) (h0 : I ρ M) (hs : ∀ x ∈ items, ∀ ρ M, I ρ M → Oc (tn (mg (.d x) ρ) body M) I R I I) (hk : ∀ ρ M, I ρ M → Oc (s ρ M) P R Ct B) : Oc (seqK (forL mg body items ρ M) s) P R Ct B :=
  Oc.seq' I (Oc.for I items hs (fun _ _ h => h) ρ M h0) hk
end
/-- a law's end -/
theorem law_end {body : Sx} {n : Nat} {v : VD} (h : Oc (body ([v].map some ++ List.replicate (n - [v].length) none) []) (fun _ _ => False) (fun v _ => v = .d (.bl true)) (fun _ _ => False) (fun _ _ => False)) : ∃ M, fnM n body [v] [] = .ok (.d (.bl true)) M := by
  rw [fnM_eq]
  generalize hb : body ([v].map some ++ List.replicate (n - [v].length) none) [] = o at h
  cases o with
  | nx ρ M => exact h.go.elim
  | ret v M =>
    cases (show v = .d (.bl true) from h.go)
    rw [fnK_ret]
    unfold trim
    exact ⟨_, rfl⟩
  | ct ρ M => exact h.go.elim
  | brk ρ M => exact h.go.elim
  | exc c fs M => exact h.go.elim
  | fail => exact h.go.elim
end G


namespace G
open PySem PySem.Spec PyProof.Rows L2
noncomputable def b_Book_muted : Sx :=
    (s_seq (s_for (i_any (e_var 1)) (g_name 2) (s_if (e_notT (e_truth (e_call 3 m_is_number (a_cons (e_var 2) (a_cons (e_c (.int 0)) (a_cons (e_op f_sub (e_bi f_len (a_cons (e_fld (tb 0 2) (e_var 0)) a_nil)) (e_c (.int 1))) a_nil)))))) s_fail s_skip))
    (s_seq (s_asg (e_comp [4, 5] (i_enumA (a_cons (e_fld (tb 0 2) (e_var 0)) a_nil)) (g_tup 2 (g_cons (g_name 4) (g_cons (g_name 5) g_nil))) e_yes (e_if (e_asB (e_op f_in (e_var 4) (e_var 1))) (e_tup (a_star (e_sl (e_var 5) o_none (o_some (e_c (.int 3)))) (a_cons (e_c (.str [])) a_nil))) (e_var 5))) (g_name 3))
    (s_ret (e_make 0 3 p_Book___init__ (a_cons (e_fld (tb 0 0) (e_var 0)) (a_cons (e_fld (tb 0 1) (e_var 0)) (a_star (e_var 3) a_nil)))))))
noncomputable def m_Book_muted : List VD → Mem → Res VD := fnM 6 b_Book_muted
noncomputable def p_Book_muted : List VD → Mem → Res VD := arS 1 m_Book_muted
noncomputable def b_Book___init___x : Sx :=
    (s_seq (s_if (e_notT (e_truth (e_call 1 m_is_kinds (a_cons (e_var 1) a_nil)))) (s_raise 18 [73, 110, 118, 97, 108, 105, 100, 75, 105, 110, 100, 115] (a_cons (e_var 1) a_nil)) s_skip)
    (s_seq (s_if (e_notT (e_truth (e_call 1 m_is_comers (a_cons (e_var 2) a_nil)))) (s_raise 19 [73, 110, 118, 97, 108, 105, 100, 67, 111, 109, 101, 114, 115] (a_cons (e_var 2) a_nil)) s_skip)
    (s_seq (s_for (i_enumA (a_cons (e_var 3) a_nil)) (g_tup 2 (g_cons (g_name 4) (g_cons (g_name 5) g_nil))) (s_if (e_orT (e_asB (e_op f_ge (e_var 4) (e_c (.int 8)))) (e_notT (e_truth (e_call 3 m_is_line (a_cons (e_var 5) (a_cons (e_var 1) (a_cons (e_var 2) a_nil))))))) (s_raise 20 [73, 110, 118, 97, 108, 105, 100, 76, 105, 110, 101] (a_cons (e_var 4) a_nil)) s_skip))
    (s_seq (s_fld (tb 0 0) (e_var 1) (e_var 0))
    (s_seq (s_fld (tb 0 1) (e_var 2) (e_var 0))
    (s_fld (tb 0 2) (e_bi f_list (a_cons (e_var 3) a_nil)) (e_var 0)))))))
noncomputable def m_Book___init___x : List VD → Mem → Res VD := fnX 6 b_Book___init___x
noncomputable def p_Book___init___x : List VD → Mem → Res VD := arS 3 m_Book___init___x
noncomputable def b_Book_muted_x : Sx :=
    (s_seq (s_for (i_any (e_var 1)) (g_name 2) (s_if (e_notT (e_truth (e_call 3 m_is_number (a_cons (e_var 2) (a_cons (e_c (.int 0)) (a_cons (e_op f_sub (e_bi f_len (a_cons (e_fld (tb 0 2) (e_var 0)) a_nil)) (e_c (.int 1))) a_nil)))))) (s_raise 20 [73, 110, 118, 97, 108, 105, 100, 76, 105, 110, 101] (a_cons (e_var 2) a_nil)) s_skip))
    (s_seq (s_asg (e_comp [4, 5] (i_enumA (a_cons (e_fld (tb 0 2) (e_var 0)) a_nil)) (g_tup 2 (g_cons (g_name 4) (g_cons (g_name 5) g_nil))) e_yes (e_if (e_asB (e_op f_in (e_var 4) (e_var 1))) (e_tup (a_star (e_sl (e_var 5) o_none (o_some (e_c (.int 3)))) (a_cons (e_c (.str [])) a_nil))) (e_var 5))) (g_name 3))
    (s_ret (e_make 0 3 p_Book___init___x (a_cons (e_fld (tb 0 0) (e_var 0)) (a_cons (e_fld (tb 0 1) (e_var 0)) (a_star (e_var 3) a_nil)))))))
noncomputable def m_Book_muted_x : List VD → Mem → Res VD := fnX 6 b_Book_muted_x
noncomputable def p_Book_muted_x : List VD → Mem → Res VD := arS 1 m_Book_muted_x
def tabN : Nat → List Str
  | 0 => ["kinds", "comers", "own_lines"]
  | 18 => ["code", "given"]
  | 19 => ["code", "given"]
  | 20 => ["code", "at"]
  | _ => []
def isE : Nat → Bool
  | 18 => true
  | 19 => true
  | 20 => true
  | _ => false
noncomputable def lm_0 : Mx VD :=
    (e_meth 0 p_Book_muted_x (e_var 4) (a_cons (e_var 8) a_nil))
noncomputable def lm_1 : Mx VD :=
    (e_meth 0 p_Book_muted_x (e_var 4) (a_cons (e_op f_ix (e_var 6) (e_c (.int 0))) (a_cons (e_var 8) a_nil)))
noncomputable def lm_2 : Mx VD :=
    (e_meth 0 p_Book_muted_x (e_var 4) (a_cons (e_var 8) (a_cons (e_c .non) (a_cons (e_op f_ix (e_var 6) (e_c (.int 1))) a_nil))))
noncomputable def lm_3 : Mx VD :=
    (e_meth 0 p_Book_muted_x (e_var 4) (a_cons (e_var 5) a_nil))
noncomputable def lm_4 : Mx VD :=
    (e_meth 0 p_Book_muted_x (e_var 4) (a_cons (e_c (.int (-1))) (a_cons (e_var 5) a_nil)))
noncomputable def lmT : Nat → Option (Mx VD)
  | 0 => some lm_0
  | 1 => some lm_1
  | 2 => some lm_2
  | 3 => some lm_3
  | 4 => some lm_4
  | _ => none
noncomputable def b_law : Sx :=
    (s_seq (s_asg (e_call 1 m__law_open (a_cons (e_var 0) a_nil)) (g_name 1))
    (s_seq (s_asg (e_call 2 m__law_some_book (a_cons (e_var 1) (a_cons (e_lst (a_cons (e_c (.int 3)) (a_cons (e_c (.int 2)) (a_cons (e_c (.int 5)) (a_cons (e_c (.int 3)) a_nil))))) a_nil))) (g_name 2))
    (s_seq (s_asg (e_tup (a_cons (e_call 1 m__law_book (a_cons (e_var 2) a_nil)) (a_cons (e_bi f_len (a_cons (e_op f_ix (e_var 2) (e_c (.int 2))) a_nil)) a_nil))) (g_tup 2 (g_cons (g_name 4) (g_cons (g_name 5) g_nil))))
    (s_seq (s_if (e_orT (e_notT (e_truth (e_call 2 (m__law_same 8) (a_cons (e_meth 0 (ar 1 m_Book_lines) (e_meth 0 p_Book_muted (e_var 4) a_nil) a_nil) (a_cons (e_op f_ix (e_var 2) (e_c (.int 2))) a_nil))))) (e_asB (e_op (f_eqO 0 (ar 2 m_Book___eq__) true) (e_meth 0 p_Book_muted (e_var 4) a_nil) (e_var 4)))) (s_ret (e_c (.bl false))) s_skip)
    (s_seq (s_if (e_asB (e_op f_gt (e_var 5) (e_c (.int 0)))) (s_seq (s_asg (e_comp [14] (i_rng1 (a_cons (e_c (.int 3)) a_nil)) (g_name 14) e_yes (e_call 2 m__law_draw (a_cons (e_var 1) (a_cons (e_var 5) a_nil)))) (g_name 6))
    (s_seq (s_asg (e_lst (a_cons (e_meth 0 p_Book_muted (e_var 4) (a_cons (e_op f_ix (e_var 6) (e_c (.int 0))) a_nil)) (a_cons (e_meth 0 p_Book_muted (e_var 4) (a_cons (e_op f_ix (e_var 6) (e_c (.int 0))) (a_cons (e_op f_ix (e_var 6) (e_c (.int 1))) a_nil))) (a_cons (e_meth 0 p_Book_muted (e_var 4) (a_cons (e_op f_ix (e_var 6) (e_c (.int 0))) (a_cons (e_op f_ix (e_var 6) (e_c (.int 1))) (a_cons (e_op f_ix (e_var 6) (e_c (.int 2))) a_nil)))) a_nil)))) (g_name 7))
    (s_seq (s_for (i_enumA (a_cons (e_var 7) a_nil)) (g_tup 2 (g_cons (g_name 9) (g_cons (g_name 10) g_nil))) (s_seq (s_asg (e_comp [16, 17] (i_enumA (a_cons (e_op f_ix (e_var 2) (e_c (.int 2))) a_nil)) (g_tup 2 (g_cons (g_name 16) (g_cons (g_name 17) g_nil))) e_yes (e_if (e_asB (e_op f_in (e_var 16) (e_sl (e_var 6) o_none (o_some (e_op f_add (e_var 9) (e_c (.int 1))))))) (e_tup (a_cons (e_op f_ix (e_var 17) (e_c (.int 0))) (a_cons (e_op f_ix (e_var 17) (e_c (.int 1))) (a_cons (e_op f_ix (e_var 17) (e_c (.int 2))) (a_cons (e_c (.str [])) a_nil))))) (e_var 17))) (g_name 11))
    (s_seq (s_asg (e_lst (a_cons (e_op f_ix (e_var 2) (e_c (.int 0))) (a_cons (e_op f_ix (e_var 2) (e_c (.int 1))) (a_cons (e_var 11) a_nil)))) (g_name 12))
    (s_seq (s_if (e_notT (e_truth (e_call 2 (m__law_same 8) (a_cons (e_lst (a_cons (e_fld (tb 0 0) (e_var 10)) (a_cons (e_fld (tb 0 1) (e_var 10)) (a_cons (e_meth 0 (ar 1 m_Book_lines) (e_var 10) a_nil) a_nil)))) (a_cons (e_var 12) a_nil))))) (s_ret (e_c (.bl false))) s_skip)
    (s_seq (s_if (e_asB (e_op (f_eqO 0 (ar 2 m_Book___eq__) true) (e_var 10) (e_call 1 m__law_book (a_cons (e_var 12) a_nil)))) (s_ret (e_c (.bl false))) s_skip)
    (s_for (i_any (e_call 1 m__law_all_gaps (a_cons (e_op f_ix (e_var 2) (e_c (.int 0))) a_nil))) (g_name 13) (s_seq (s_asg (e_comp [18] (i_any (e_op f_ix (e_var 2) (e_c (.int 1)))) (g_name 18) e_yes (e_meth 0 (ar 3 m_Book_word) (e_var 10) (a_cons (e_var 13) (a_cons (e_var 18) a_nil)))) (g_name 15))
    (s_if (e_notT (e_truth (e_call 2 (m__law_same 8) (a_cons (e_var 15) (a_cons (e_comp [18] (i_any (e_op f_ix (e_var 2) (e_c (.int 1)))) (g_name 18) e_yes (e_call 3 m__law_word (a_cons (e_var 12) (a_cons (e_var 13) (a_cons (e_var 18) a_nil))))) a_nil))))) (s_ret (e_c (.bl false))) s_skip))))))))
    (s_seq (s_asg (e_call 2 m__law_of (a_cons (e_var 1) (a_cons (e_lst (a_cons (e_c (.int (-1))) (a_cons (e_var 5) (a_cons (e_op f_add (e_var 5) (e_c (.int 9))) (a_cons (e_c .non) (a_cons (e_c (.bl true)) (a_cons (e_c (.bl false)) (a_cons (e_c (.str [48])) (a_cons (e_lst (a_cons (e_c (.int 0)) a_nil)) (a_cons (e_tup (a_cons (e_c (.int 0)) a_nil)) (a_cons (e_c (.str [])) a_nil))))))))))) a_nil))) (g_name 8))
    (s_seq (s_asg (e_lst (a_cons (e_lam 0) (a_cons (e_lam 1) (a_cons (e_lam 2) a_nil)))) (g_name 3))
    (s_if (e_notT (e_truth (e_call 2 (m__law_same 8) (a_cons (e_lamcall (fun ρ => m_law_tries lmT ρ tabN isE) (a_cons (e_var 3) a_nil)) (a_cons (e_op f_mul (e_lst (a_cons (e_tup (a_cons (e_c (.str [73, 110, 118, 97, 108, 105, 100, 76, 105, 110, 101])) (a_cons (e_var 8) a_nil))) a_nil)) (e_c (.int 3))) a_nil))))) (s_ret (e_c (.bl false))) s_skip)))))) s_skip)
    (s_seq (s_asg (e_lst (a_cons (e_lam 3) (a_cons (e_lam 4) a_nil))) (g_name 3))
    (s_seq (s_if (e_notT (e_truth (e_call 2 (m__law_same 8) (a_cons (e_lamcall (fun ρ => m_law_tries lmT ρ tabN isE) (a_cons (e_var 3) a_nil)) (a_cons (e_lst (a_cons (e_tup (a_cons (e_c (.str [73, 110, 118, 97, 108, 105, 100, 76, 105, 110, 101])) (a_cons (e_var 5) a_nil))) (a_cons (e_tup (a_cons (e_c (.str [73, 110, 118, 97, 108, 105, 100, 76, 105, 110, 101])) (a_cons (e_c (.int (-1))) a_nil))) a_nil))) a_nil))))) (s_ret (e_c (.bl false))) s_skip)
    (s_ret (e_call 2 (m__law_same 8) (a_cons (e_meth 0 (ar 1 m_Book_lines) (e_var 4) a_nil) (a_cons (e_op f_ix (e_var 2) (e_c (.int 2))) a_nil)))))))))))
noncomputable def m_law : List VD → Mem → Res VD := fnM 19 b_law
end G

namespace G
open PySem PySem.Spec PyProof.Rows L2
structure Bag where
  cs : List Int
  p : Int
  r : Int
  x : Int
  n : Int
def mo (b : Bag) : MO := .lst [.lst (b.cs.map .int), .int b.p, .int b.r, .int b.x, .int b.n]
structure BagOk (b : Bag) : Prop where
  p : 0 ≤ b.p
  r : 0 ≤ b.r
  x : 0 ≤ b.x
  x2 : b.x < 2147483648
theorem atI_map {α β : Type} (g : α → β) {l : List α} {i : Int} (h0 : 0 ≤ i) (h1 : i < l.length) : ∃ a, l[i.toNat]? = some a ∧ L2.atI (l.map g) i = some (g a) := by
  have hn : i.toNat < l.length := by omega
  refine ⟨l[i.toNat], List.getElem?_eq_getElem hn, ?_⟩
  have e := atI_nat' (l := l.map g) (n := i.toNat) (a := g l[i.toNat]) (by simp [hn])
  rw [Int.toNat_of_nonneg h0] at e
  exact e
theorem mod_lt31 (i : Int) : 0 ≤ i % 2147483629 ∧ i % 2147483629 < 2147483648 := by omega
theorem draw_ok {b : Bag} (hb : BagOk b) {many : Int} (h0 : 0 < many) (h1 : many < 1073741824) (Mr : Mem) : ∃ v b', m__law_draw [.adr 0, .d (.int many)] (mo b :: Mr) = .ok (.d (.int v)) (mo b' :: Mr) ∧ BagOk b' ∧ 0 ≤ v ∧ v < many := by
  obtain ⟨cs, p, r, x, n⟩ := b
  obtain ⟨hp, hr, hx, hx2⟩ := hb
  dsimp only at hp hr hx hx2
  have hx3 : -18446744073709551616 < x := by omega
  have hx4 : x < 18446744073709551616 := by omega
  unfold m__law_draw
  rw [fnM_eq]
  unfold b__law_draw
  have fin : ∀ (r : Int) (p x n : Int) (ρ3 : Option VD), 0 ≤ r → 0 ≤ p → 0 ≤ x → x < 2147483648 → ∃ v b', fnK (List.length Mr + 1) (seqK (.nx [some (VD.adr 0), some (VD.d (D.int many)), none, ρ3, none] (MO.lst [D.lst (List.map D.int cs), D.int p, D.int r, D.int x, D.int n] :: Mr))
      (s_seq
              (s_if (e_asB (e_op f_gt (e_op f_ix (e_var 0) (e_c (D.int 2))) (e_c (D.int 0))))
                (s_seq
                  (s_asg (e_op f_mod (e_bi f_int (a_cons (e_op f_ix (e_var 0) (e_c (D.int 2))) a_nil)) (e_var 1))
                    (g_name 4))
                  (s_seq
                    (s_seti (e_op f_fdiv (e_op f_ix (e_var 0) (e_c (D.int 2))) (e_var 1)) (e_var 0) (e_c (D.int 2)))
                    (s_ret (e_var 4))))
                s_skip)
              (s_seq
                (s_asg
                  (e_op f_mod
                    (e_bi f_int
                      (a_cons
                        (e_op f_add
                          (e_op f_mul (e_op f_ix (e_var 0) (e_c (D.int 3))) (e_op f_ix (e_var 0) (e_c (D.int 3))))
                          (e_op f_mul (e_op f_ix (e_var 0) (e_c (D.int 4))) (e_c (D.int 9133))))
                        a_nil))
                    (e_c (D.int 2147483549)))
                  (g_name 2))
                (s_seq
                  (s_seti
                    (e_op f_mod
                      (e_bi f_int
                        (a_cons
                          (e_op f_add
                            (e_op f_add (e_op f_mul (e_var 2) (e_c (D.int 16033)))
                              (e_op f_mul (e_op f_ix (e_var 0) (e_c (D.int 3))) (e_c (D.int 51043))))
                            (e_c (D.int 60029)))
                          a_nil))
                      (e_c (D.int 2147483629)))
                    (e_var 0) (e_c (D.int 3)))
                  (s_ret
                    (e_op f_mod
                      (e_bi f_int (a_cons (e_op f_fdiv (e_op f_ix (e_var 0) (e_c (D.int 3))) (e_c (D.int 64))) a_nil))
                      (e_var 1))))))) =
        Res.ok (VD.d (D.int v)) (mo b' :: Mr) ∧ BagOk b' ∧ 0 ≤ v ∧ v < many := by
    intro r p x n ρ3 hr hp hx hx2
    by_cases hr0 : 0 < r
    · refine ⟨r % many, ⟨cs, p, r / many, x, n⟩, ?_, ⟨hp, Int.ediv_nonneg hr (by omega), hx, hx2⟩, Int.emod_nonneg _ (by omega), Int.emod_lt_of_pos _ h0⟩
      simp [mo, ixN, hr0, h0, h1]
      rw [trim_same (by simp)]
    · have e : r = 0 := by omega
      subst e
      refine ⟨((x * x + n * 9133) % 2147483549 * 16033 + x * 51043 + 60029) % 2147483629 / 64 % many, ⟨cs, p, 0, ((x * x + n * 9133) % 2147483549 * 16033 + x * 51043 + 60029) % 2147483629, n⟩, ?_, ⟨hp, Int.le_refl _, (mod_lt31 _).1, (mod_lt31 _).2⟩, Int.emod_nonneg _ (by omega), Int.emod_lt_of_pos _ h0⟩
      · simp [mo, ixN, h0, h1, show -18446744073709551616 < x by omega, show x < 18446744073709551616 by omega]
        rw [trim_same (by simp)]
  by_cases hr0 : r = 0
  · subst hr0
    by_cases hp1 : p < cs.length
    · obtain ⟨c, hc, ha⟩ := atI_map D.int (l := cs) hp hp1
      by_cases hb : 1000000000000000000 ≤ (if c < 0 then -c else c)
      · obtain ⟨v, b', e, r1, r2⟩ := fin (if c < 0 then -c else c) (p + 1) x (n + 1) (some (.d (.int c))) (by omega) (by omega) hx hx2
        refine ⟨v, b', ?_, r1, r2⟩
        rw [← e]
        simp [mo, ixN, hp1, ha, hb]
      · obtain ⟨v, b', e, r1, r2⟩ := fin 0 (p + 1) ((x * 38113 + c % 1000003 * 691 + 47) % 2147483629) (n + 1) (some (.d (.int c))) (by omega) (by omega) (mod_lt31 _).1 (mod_lt31 _).2
        refine ⟨v, b', ?_, r1, r2⟩
        rw [← e]
        simp [mo, ixN, hp1, ha, hb, hx3, hx4]
    · obtain ⟨v, b', e, r1, r2⟩ := fin 0 p x (n + 1) none (by omega) hp hx hx2
      refine ⟨v, b', ?_, r1, r2⟩
      rw [← e]
      simp [mo, ixN, hp1]
  · obtain ⟨v, b', e, r1, r2⟩ := fin r p x (n + 1) none hr hp hx hx2
    refine ⟨v, b', ?_, r1, r2⟩
    rw [← e]
    have : (r == 0) = false := by simpa using hr0
    simp [mo, ixN, this]
end G

namespace G
open PySem PySem.Spec PyProof.Rows L2
theorem lim_eq : lim = 1000000 := rfl
/-- a loop with an invariant -/
theorem forL_inv {mg : VD → Env → Option Env} {body : Sx} (I : Env → Mem → Prop) : ∀ (items : List D), (∀ x ∈ items, ∀ ρ M, I ρ M → ∃ ρ1 ρ2 M2, mg (.d x) ρ = some ρ1 ∧ body ρ1 M = .nx ρ2 M2 ∧ I ρ2 M2) → ∀ ρ M, I ρ M → ∃ ρ2 M2, forL mg body items ρ M = .nx ρ2 M2 ∧ I ρ2 M2
  | [], _, ρ, M, h => ⟨ρ, M, rfl, h⟩
  | x :: xs, hs, ρ, M, h => by
    obtain ⟨ρ1, ρ2, M2, e1, e2, h2⟩ := hs x List.mem_cons_self ρ M h
    obtain ⟨ρ3, M3, e3, h3⟩ := forL_inv I xs (fun y hy => hs y (List.mem_cons_of_mem _ hy)) ρ2 M2 h2
    exact ⟨ρ3, M3, by rw [forL_cons, e1, flK_ok, e2, flK2_nx, e3], h3⟩
/-- .. with a count -/
theorem forL_cnt {mg : VD → Env → Option Env} {body : Sx} (I : Nat → Env → Mem → Prop) (g : Nat → D) : ∀ (n k : Nat), (∀ i, k ≤ i → i < k + n → ∀ ρ M, I i ρ M → ∃ ρ1 ρ2 M2, mg (.d (g i)) ρ = some ρ1 ∧ body ρ1 M = .nx ρ2 M2 ∧ I (i + 1) ρ2 M2) → ∀ ρ M, I k ρ M → ∃ ρ2 M2, forL mg body ((List.range' k n).map g) ρ M = .nx ρ2 M2 ∧ I (k + n) ρ2 M2
  | 0, k, _, ρ, M, h => ⟨ρ, M, rfl, h⟩
  | n + 1, k, hs, ρ, M, h => by
    obtain ⟨ρ1, ρ2, M2, e1, e2, h2⟩ := hs k (by omega) (by omega) ρ M h
    obtain ⟨ρ3, M3, e3, h3⟩ := forL_cnt I g n (k + 1) (fun i h1 h3 => hs i (by omega) (by omega)) ρ2 M2 h2
    refine ⟨ρ3, M3, ?_, by rw [show k + (n + 1) = k + 1 + n by omega]; exact h3⟩
    rw [List.range'_succ, List.map_cons, forL_cons, e1, flK_ok, e2, flK2_nx, e3]
theorem range_eq (n : Nat) : range 0 n = (List.range' 0 n).map fun (i : Nat) => D.int i := by
  unfold range
  rw [List.range_eq_range']
  simp
/-- a comprehension that moves the memory -/
theorem compL_inv {turn : D → Mem → Res (Option D)} (I : Mem → Prop) (P : D → Prop) : ∀ (items acc : List D) (M : Mem), I M → (∀ x ∈ items, ∀ M, I M → ∃ y M2, turn x M = .ok (some y) M2 ∧ I M2 ∧ P y) → acc.length + items.length ≤ lim → ∃ ys M2, compL turn items M acc = .ok (acc ++ ys) M2 ∧ I M2 ∧ ys.length = items.length ∧ ∀ y ∈ ys, P y
  | [], acc, M, h, _, _ => ⟨[], M, by simp, h, rfl, by simp⟩
  | x :: xs, acc, M, h, hs, hl => by
    obtain ⟨y, M2, e, h2, hp⟩ := hs x List.mem_cons_self M h
    obtain ⟨ys, M3, e3, h3, hn, hq⟩ := compL_inv I P xs (acc ++ [y]) M2 h2 (fun z hz => hs z (List.mem_cons_of_mem _ hz)) (by simp at hl ⊢; omega)
    refine ⟨y :: ys, M3, ?_, h3, by simp [hn], by simpa using ⟨hp, hq⟩⟩
    rw [compL_cons, e, clK_some, if_pos (by simp at hl; omega), e3]
    simp
theorem cut63 {α : Type} {xs : List α} (h : xs.length ≤ 63) : cut xs none (some 63) = xs := by
  unfold cut HT.sIx
  dsimp only
  rw [if_neg (by omega)]
  have e : min (63 : Int).toNat xs.length = xs.length := by
    show min 63 xs.length = _
    omega
  rw [e]
  simp
/-! the draws -/
theorem open_ok (ns : List Int) (h : ns.length ≤ 63) : ∃ b, m__law_open [.d (.scr ns)] [] = .ok (.adr 0) [mo b] ∧ BagOk b := by
  unfold m__law_open
  rw [fnM_eq]
  unfold b__law_open
  simp
  rw [cut63 (by simpa using h)]
  obtain ⟨ρ2, M2, e, x, y, r1, r2, r3, r4⟩ := forL_inv (mg := g_name 2) (body := (s_asg (e_op f_mod (e_bi f_int (a_cons (e_op f_add (e_op f_add (e_op f_mul (e_var 1) (e_c (.int 44021))) (e_op f_mul (e_op f_mod (e_bi f_int (a_cons (e_var 2) a_nil)) (e_c (.int 1000003))) (e_c (.int 853)))) (e_c (.int 23))) a_nil)) (e_c (.int 2147483587))) (g_name 1))) (fun ρ M => ∃ x : Int, ∃ y, ρ = [some (.d (.scr ns)), some (.d (.int x)), y] ∧ M = [] ∧ 0 ≤ x ∧ x < 2147483648) (ns.map D.int) (by
    intro d hd ρ M ⟨x, y, r1, r2, r3, r4⟩
    obtain ⟨c, hc, rfl⟩ := List.mem_map.mp hd
    subst r1 r2
    refine ⟨_, _, _, rfl, ?_, (x * 44021 + c % 1000003 * 853 + 23) % 2147483587, some (.d (.int c)), rfl, rfl, by omega, by omega⟩
    simp [show -18446744073709551616 < x by omega, show x < 18446744073709551616 by omega]) [some (.d (.scr ns)), some (.d (.int 4938)), none] [] ⟨4938, none, rfl, rfl, by omega, by omega⟩
  rw [e]
  subst r1 r2
  simp [lim, cut63, h]
  refine ⟨⟨ns, 0, 0, x, 0⟩, ?_, by dsimp; omega, by dsimp; omega, r3, r4⟩
  unfold trim
  rfl
theorem of_ok {b : Bag} (hb : BagOk b) {ds : List D} (h0 : ds ≠ []) (h1 : ds.length < 1073741824) (Mr : Mem) : ∃ d b', m__law_of [.adr 0, .d (.lst ds)] (mo b :: Mr) = .ok (.d d) (mo b' :: Mr) ∧ BagOk b' ∧ d ∈ ds := by
  obtain ⟨v, b', e, hb', hv, hv2⟩ := draw_ok hb (many := ds.length) (by have := List.length_pos_iff.mpr h0; omega) (by omega) Mr
  have hn : v.toNat < ds.length := by omega
  refine ⟨ds[v.toNat], b', ?_, hb', List.getElem_mem hn⟩
  unfold m__law_of
  rw [fnM_eq]
  unfold b__law_of
  simp [e]
  have := atI_nat' (l := ds) (n := v.toNat) (a := ds[v.toNat]) (by simp [hn])
  rw [Int.toNat_of_nonneg hv] at this
  simp [this]
  rw [trim_same (by simp)]
theorem ofs_ok {b : Bag} (hb : BagOk b) {s : List Nat} (h0 : s ≠ []) (h1 : s.length ≤ lim) (Mr : Mem) : ∃ c b', m__law_of [.adr 0, .d (.str s)] (mo b :: Mr) = .ok (.d (.str [c])) (mo b' :: Mr) ∧ BagOk b' ∧ c ∈ s := by
  obtain ⟨v, b', e, hb', hv, hv2⟩ := draw_ok hb (many := s.length) (by have := List.length_pos_iff.mpr h0; omega) (by rw [lim_eq] at h1; omega) Mr
  have hn : v.toNat < s.length := by omega
  refine ⟨s[v.toNat], b', ?_, hb', List.getElem_mem hn⟩
  unfold m__law_of
  rw [fnM_eq]
  unfold b__law_of
  simp [e, h1]
  have := atI_nat' (l := s) (n := v.toNat) (a := s[v.toNat]) (by simp [hn])
  rw [Int.toNat_of_nonneg hv] at this
  simp [this, h1]
  rw [trim_same (by simp)]
theorem letters_ok {b : Bag} (hb : BagOk b) {s : List Nat} {many : Nat} (h : many ≤ s.length) (h1 : s.length ≤ 1000) (Mr : Mem) : ∃ t b', m__law_letters [.adr 0, .d (.str s), .d (.int many)] (mo b :: Mr) = .ok (.d (.str t)) (mo b' :: Mr) ∧ BagOk b' ∧ t.Sublist s ∧ t.length = many := by
  unfold m__law_letters
  rw [fnM_eq]
  unfold b__law_letters
  simp [lim]
  rw [rngK1_nat (by rw [lim_eq]; omega)]
  simp
  rw [range_eq]
  obtain ⟨ρ2, M2, e, x3, t, low, x6, b', r1, r2, r3, r4, r5, r6⟩ := forL_cnt (mg := g_name 3) (body := (s_seq (s_asg (e_op f_add (e_var 5) (e_call 2 m__law_draw (a_cons (e_var 0) (a_cons (e_op f_sub (e_op f_sub (e_bi f_len (a_cons (e_var 1) a_nil)) (e_var 5)) (e_op f_sub (e_op f_sub (e_var 2) (e_c (.int 1))) (e_var 3))) a_nil)))) (g_name 6))
    (s_par 4 5 (a_cons (e_op f_add (e_var 4) (e_op f_ix (e_var 1) (e_var 6))) (a_cons (e_op f_add (e_var 6) (e_c (.int 1))) a_nil))))) (fun k ρ M => ∃ x3 t, ∃ low : Nat, ∃ x6 b', ρ = [some (.adr 0), some (.d (.str s)), some (.d (.int many)), x3, some (.d (.str t)), some (.d (.int low)), x6] ∧ M = mo b' :: Mr ∧ BagOk b' ∧ t.Sublist (s.take low) ∧ t.length = k ∧ low + many ≤ s.length + k) (fun (i : Nat) => D.int i) many 0 (by
    intro k _ hk ρ M ⟨x3, t, low, x6, b', r1, r2, r3, r4, r5, r6⟩
    subst r1 r2
    obtain ⟨v, b2, e, hb2, hv, hv2⟩ := draw_ok r3 (many := (s.length : Int) - low - (many - 1 - k)) (by omega) (by omega) Mr
    obtain ⟨n, rfl⟩ := Int.eq_ofNat_of_zero_le hv
    have hn : low + n < s.length := by omega
    refine ⟨_, _, _, rfl, ?_, some (.d (.int k)), t ++ [s[low + n]], low + n + 1, some (.d (.int (low + n))), b2, rfl, rfl, hb2, ?_, by simp [r5], by omega⟩
    · have := atI_nat' (l := s) (n := low + n) (a := s[low + n]) (by simp [hn])
      rw [Int.natCast_add] at this
      have hl : t.length ≤ s.length := Nat.le_trans r4.length_le (by simp; omega)
      simp [lim, e, show s.length ≤ 1000000 by omega, this, show t.length + 1 ≤ 1000000 by omega]
    · rw [List.take_succ_eq_append_getElem hn]
      exact List.Sublist.append (r4.trans (List.take_sublist_take_left (by omega))) (List.Sublist.refl _)) _ (mo b :: Mr) ⟨none, [], 0, none, b, rfl, rfl, hb, by simp, rfl, by omega⟩
  rw [show ((0 : Nat) : Int) = 0 from rfl] at e
  rw [e]
  subst r1 r2
  simp
  rw [trim_same (by simp)]
  exact ⟨t, b', rfl, r3, r4.trans (List.take_sublist _ _), by simpa using r5⟩
end G

namespace G
open PySem PySem.Spec PyProof.Rows L2
theorem compL_mapA {α : Type} {turn : D → Mem → Res (Option D)} {M : Mem} (f g : α → D) : ∀ (xs : List α) (acc : List D), (∀ x ∈ xs, turn (f x) M = .ok (some (g x)) M) → acc.length + xs.length ≤ lim → compL turn (xs.map f) M acc = .ok (acc ++ xs.map g) M
  | [], acc, _, _ => by simp
  | x :: xs, acc, h, hl => by
    rw [List.map_cons, compL_cons, h x List.mem_cons_self, clK_some, if_pos (by simp at hl; omega), compL_mapA f g xs _ (fun y hy => h y (List.mem_cons_of_mem _ hy)) (by simp at hl ⊢; omega)]
    simp
theorem compL_filterA {α : Type} {turn : D → Mem → Res (Option D)} {M : Mem} (p : α → Bool) (f g : α → D) : ∀ (xs : List α) (acc : List D), (∀ x ∈ xs, turn (f x) M = .ok (if p x then some (g x) else none) M) → acc.length + xs.length ≤ lim → compL turn (xs.map f) M acc = .ok (acc ++ (xs.filter p).map g) M
  | [], acc, _, _ => by simp
  | x :: xs, acc, h, hl => by
    rw [List.map_cons, compL_cons, h x List.mem_cons_self]
    cases q : p x with
    | true =>
      rw [if_pos rfl, clK_some, if_pos (by simp at hl; omega), compL_filterA p f g xs _ (fun y hy => h y (List.mem_cons_of_mem _ hy)) (by simp at hl ⊢; omega)]
      simp [q]
    | false =>
      rw [if_neg Bool.false_ne_true, clK_none, compL_filterA p f g xs _ (fun y hy => h y (List.mem_cons_of_mem _ hy)) (by simp at hl ⊢; omega)]
      simp [q]
theorem blL_mapB {α : Type} (g : α → Bool) (l : List α) : blL (l.map fun x => D.bl (g x)) = some (l.map g) := blL_map g l
theorem zipL_self : ∀ xs : List D, zipL xs xs = xs.map fun x => .tup [x, x]
  | [] => rfl
  | x :: xs => by rw [zipL, zipL_self xs, List.map_cons]
theorem pl_mem {n : Nat} : ∀ {xs : List D}, D.plA n xs = true → ∀ x ∈ xs, D.pl n x = true
  | [], _, x, h => by cases h
  | y :: ys, h, x, hx => by
    rw [plA_cons, Bool.and_eq_true] at h
    rcases List.mem_cons.mp hx with rfl | hx
    · exact h.1
    · exact pl_mem h.2 x hx
mutual
theorem eqv_self : ∀ (n : Nat) (x : D), D.pl n x = true → D.eqv x x = true
  | _, .non, _ => rfl
  | _, .bl b, _ => by simp
  | _, .int i, _ => by simp
  | _, .str s, _ => by simp
  | 0, .lst xs, h => by simp [D.pl] at h
  | n + 1, .lst xs, h => by
    rw [eqv_ll]
    exact eqv_selfA n xs h
  | 0, .tup xs, h => by simp [D.pl] at h
  | n + 1, .tup xs, h => by
    rw [eqv_tt]
    exact eqv_selfA n xs h
  | n, .obj c fs, h => by cases n <;> simp [D.pl] at h
  | n, .scr ns, h => by cases n <;> simp [D.pl] at h
theorem eqv_selfA : ∀ (n : Nat) (xs : List D), D.plA n xs = true → D.eqvA xs xs = true
  | _, [], _ => rfl
  | n, x :: xs, h => by
    rw [plA_cons, Bool.and_eq_true] at h
    rw [eqvA_cc, Bool.and_eq_true]
    exact ⟨eqv_self n x h.1, eqv_selfA n xs h.2⟩
end
/-- lists and tuples no longer than the limit -/
inductive Sz : D → Prop
  | non : Sz .non
  | bl {b} : Sz (.bl b)
  | int {b} : Sz (.int b)
  | str {b} : Sz (.str b)
  | lst {xs : List D} : xs.length ≤ lim → (∀ x ∈ xs, Sz x) → Sz (.lst xs)
  | tup {xs : List D} : xs.length ≤ lim → (∀ x ∈ xs, Sz x) → Sz (.tup xs)
theorem same_lst {rec : List VD → Mem → Res VD} {M : Mem} {xs : List D} (d : D) (h : ∀ x ∈ xs, rec [.d x, .d x] M = .ok (.d (.bl true)) M) (hl : xs.length ≤ lim) : compL (cTurn [2, 3] (g_tup 2 (g_cons (g_name 2) (g_cons (g_name 3) g_nil))) e_yes (e_call 2 rec (a_cons (e_var 2) (a_cons (e_var 3) a_nil))) [some (.d d), some (.d d), none, none]) (zipL xs xs) M [] = .ok (xs.map fun _ => .bl true) M := by
  rw [zipL_self, compL_mapA (fun x => .tup [x, x]) (fun _ => .bl true) xs [] (fun x hx => ?_) (by simpa using hl)]
  · simp
  · simp [h x hx]
theorem same_ok : ∀ (n : Nat) (d : D) (M : Mem), D.pl n d = true → n ≤ 20 → Sz d → m__law_same (n + 1) [.d d, .d d] M = .ok (.d (.bl true)) M := by
  intro n
  induction n with
  | zero =>
    intro d M h hn hs
    unfold m__law_same
    rw [fnM_eq]
    unfold b__law_same
    cases d with
    | non => simp
    | bl b => simp
    | int i => simp
    | str s => simp
    | obj c fs => simp [D.pl] at h
    | scr ns => simp [D.pl] at h
    | clo k => simp [D.pl] at h
    | exn c fs => simp [D.pl] at h
    | pv a => simp [D.pl] at h
    | lst xs => simp [D.pl] at h
    | tup xs => simp [D.pl] at h
  | succ n ih =>
    intro d M h hn hs
    unfold m__law_same
    rw [fnM_eq]
    unfold b__law_same
    cases d with
    | non => simp
    | bl b => simp
    | int i => simp
    | str s => simp
    | obj c fs => simp [D.pl] at h
    | scr ns => simp [D.pl] at h
    | clo k => simp [D.pl] at h
    | exn c fs => simp [D.pl] at h
    | pv a => simp [D.pl] at h
    | lst xs =>
      cases hs with
      | lst h1 h2 =>
        simp
        rw [same_lst (.lst xs) (fun x hx => ih x M (pl_mem h x hx) (by omega) (h2 x hx)) h1]
        simp [blL_map (fun _ => true)]
    | tup xs =>
      cases hs with
      | tup h1 h2 =>
        simp
        rw [same_lst (.tup xs) (fun x hx => ih x M (pl_mem h x hx) (by omega) (h2 x hx)) h1]
        simp [blL_map (fun _ => true)]
theorem chars_of {t : List Nat} : ∀ {ys : List D}, (∀ y ∈ ys, ∃ c ∈ t, y = .str [c]) → ∃ s : List Nat, ys = chars s ∧ ∀ c ∈ s, c ∈ t
  | [], _ => ⟨[], rfl, by simp⟩
  | y :: ys, h => by
    obtain ⟨c, hc, rfl⟩ := h y List.mem_cons_self
    obtain ⟨s, rfl, hs⟩ := chars_of (ys := ys) fun z hz => h z (List.mem_cons_of_mem _ hz)
    exact ⟨c :: s, rfl, by simpa using ⟨hc, hs⟩⟩
theorem stL_chars (s : List Nat) : stL (chars s) = some (s.map fun c => [c]) := stL_map (fun c => [c]) s
theorem szs_chars : ∀ s : List Nat, szs (s.map fun c => [c]) = s.length
  | [] => rfl
  | c :: s => by simp [szs, szs_chars s]; omega
theorem joinL_nil : ∀ ss : List (List Nat), TL.joinL [] ss = ss.flatten
  | [] => rfl
  | [s] => by simp [TL.joinL]
  | s :: t :: r => by
    simp [TL.joinL, joinL_nil (t :: r)]
theorem flat_chars : ∀ s : List Nat, (s.map fun c => [c]).flatten = s
  | [] => rfl
  | c :: s => by simp [flat_chars s]
theorem cut_take {α : Type} {xs : List α} {n : Nat} (h : n ≤ xs.length) : cut xs none (some (n : Int)) = xs.take n := by
  unfold cut HT.sIx
  dsimp only
  rw [if_neg (by omega)]
  simp [Nat.min_eq_left h]
theorem cut_drop {α : Type} {xs : List α} {n : Nat} (h : n ≤ xs.length) : cut xs (some (n : Int)) none = xs.drop n := by
  unfold cut HT.sIx
  dsimp only
  rw [if_neg (by omega)]
  simp [Nat.min_eq_left h]
  rw [List.take_of_length_le (by simp)]
theorem f_join_chars {s : List Nat} {M : Mem} : f_join (.d (.str [])) (.d (.lst (chars s))) M = if s.length ≤ lim then .ok (.d (.str s)) M else .fail := by
  rw [f_join_l, stL_chars, joinK_ok, szs_chars, joinL_nil, flat_chars]
  simp
end G

namespace G
open PySem PySem.Spec PyProof.Rows L2
abbrev azL : List Nat := [97, 98, 99, 100, 101, 102, 103, 104, 105, 106, 107, 108, 109, 110, 111, 112, 113, 114, 115, 116, 117, 118, 119, 120, 121, 122]
theorem some_kinds_ok {b : Bag} (hb : BagOk b) {most : Int} (h0 : 0 < most) (h : most ≤ 26) (Mr : Mem) : ∃ t b', m__law_some_kinds [.adr 0, .d (.int most)] (mo b :: Mr) = .ok (.d (.str t)) (mo b' :: Mr) ∧ BagOk b' ∧ t.Sublist azL ∧ 1 ≤ t.length ∧ (t.length : Int) ≤ most := by
  obtain ⟨v, b1, e1, hb1, hv, hv2⟩ := draw_ok hb (many := most) (by omega) (by omega) Mr
  obtain ⟨n, rfl⟩ := Int.eq_ofNat_of_zero_le hv
  obtain ⟨t, b2, e2, hb2, ht, hn⟩ := letters_ok hb1 (s := azL) (many := 1 + n) (by show 1 + n ≤ 26; omega) (by show 26 ≤ 1000; omega) Mr
  rw [Int.natCast_add] at e2
  refine ⟨t, b2, ?_, hb2, ht, by omega, by omega⟩
  unfold m__law_some_kinds
  rw [fnM_eq]
  unfold b__law_some_kinds
  simp [e1]
  erw [e2]
  simp
  rw [trim_same (by simp)]
theorem is_string_s (s t : List Nat) (M : Mem) (h : s.length ≤ lim) : m_is_string [.d (.str s), .d (.str t)] M = .ok (.d (.bl (s.all fun c => decide (c ∈ t)))) M := by
  unfold m_is_string
  rw [fnM_eq]
  unfold b_is_string
  simp
  rw [chars, compL_mapA (fun c => D.str [c]) (fun c => .bl (decide (c ∈ t))) s [] (fun x hx => by simp) (by simpa using h)]
  simp [blL_map (fun c => decide (c ∈ t))]
theorem is_row_s (s t : List Nat) (M : Mem) (h : s.length ≤ lim) : m_is_row [.d (.str s), .d (.str t)] M = .ok (.d (.bl ((s.all fun c => decide (c ∈ t)) && decide ((s.length : Int) ≤ 16)))) M := by
  unfold m_is_row
  rw [fnM_eq]
  unfold b_is_row
  simp [is_string_s s t M h]
  cases (s.all fun c => decide (c ∈ t)) <;> simp [h]
theorem is_word_s (s t : List Nat) (M : Mem) (h : s.length ≤ lim) : m_is_word [.d (.str s), .d (.str t)] M = .ok (.d (.bl ((s.all fun c => decide (c ∈ t)) && decide ((s.length : Int) ≤ 3)))) M := by
  unfold m_is_word
  rw [fnM_eq]
  unfold b_is_word
  simp [is_string_s s t M h]
  cases (s.all fun c => decide (c ∈ t)) <;> simp [h]
/-- no string -/
inductive NoS : D → Prop
  | non : NoS .non
  | bl {b} : NoS (.bl b)
  | int {b} : NoS (.int b)
  | lst {xs : List D} : NoS (.lst xs)
  | tup {xs : List D} : NoS (.tup xs)
theorem is_string_n {d : D} (hd : NoS d) (t : List Nat) (M : Mem) : m_is_string [.d d, .d (.str t)] M = .ok (.d (.bl false)) M := by
  unfold m_is_string
  rw [fnM_eq]
  unfold b_is_string
  cases hd <;> simp
theorem is_row_n {d : D} (hd : NoS d) (t : List Nat) (M : Mem) : m_is_row [.d d, .d (.str t)] M = .ok (.d (.bl false)) M := by
  unfold m_is_row
  rw [fnM_eq]
  unfold b_is_row
  simp [is_string_n hd t M]
theorem is_word_n {d : D} (hd : NoS d) (t : List Nat) (M : Mem) : m_is_word [.d d, .d (.str t)] M = .ok (.d (.bl false)) M := by
  unfold m_is_word
  rw [fnM_eq]
  unfold b_is_word
  simp [is_string_n hd t M]
theorem is_gap_n {d : D} (hd : NoS d) (t : List Nat) (M : Mem) : m_is_gap [.d d, .d (.str t)] M = .ok (.d (.bl false)) M := by
  unfold m_is_gap
  rw [fnM_eq]
  unfold b_is_gap
  cases hd <;> simp
theorem is_gap_l (s t : List Nat) (M : Mem) (h : s.length ≤ lim) (h2 : s.length ≠ 2) : m_is_gap [.d (.str s), .d (.str t)] M = .ok (.d (.bl false)) M := by
  unfold m_is_gap
  rw [fnM_eq]
  unfold b_is_gap
  simp [h]
  rw [show ((s.length : Int) == 2) = false by simpa using (show (s.length : Int) ≠ 2 by omega)]
  simp
theorem is_gap_2 (a b : Nat) (t : List Nat) (M : Mem) (h : t.length + 1 ≤ lim) : m_is_gap [.d (.str [a, b]), .d (.str t)] M = .ok (.d (.bl (decide (a ∈ 60 :: t) && decide (b ∈ t ++ [62])))) M := by
  unfold m_is_gap
  rw [fnM_eq]
  unfold b_is_gap
  have q : 2 ≤ lim := by decide
  have h' : 1 + t.length ≤ lim := by omega
  simp [q, h, h']
  cases (decide (a = 60) || decide (a ∈ t)) with
  | false => simp
  | true => simp [q, h, h']
end G

namespace G
open PySem PySem.Spec PyProof.Rows L2
/-! is_number, is_rising, is_kinds, is_comers -/
abbrev AZL : List Nat := [65, 66, 67, 68, 69, 70, 71, 72, 73, 74, 75, 76, 77, 78, 79, 80, 81, 82, 83, 84, 85, 86, 87, 88, 89, 90]
theorem az_lt : azL.Pairwise (· < ·) := by decide
theorem AZ_lt : AZL.Pairwise (· < ·) := by decide
theorem some_comers_ok {b : Bag} (hb : BagOk b) {most : Int} (h0 : 0 < most) (h : most ≤ 26) (Mr : Mem) : ∃ t b', m__law_some_comers [.adr 0, .d (.int most)] (mo b :: Mr) = .ok (.d (.str t)) (mo b' :: Mr) ∧ BagOk b' ∧ t.Sublist AZL ∧ 1 ≤ t.length ∧ (t.length : Int) ≤ most := by
  obtain ⟨v, b1, e1, hb1, hv, hv2⟩ := draw_ok hb (many := most) (by omega) (by omega) Mr
  obtain ⟨n, rfl⟩ := Int.eq_ofNat_of_zero_le hv
  obtain ⟨t, b2, e2, hb2, ht, hn⟩ := letters_ok hb1 (s := AZL) (many := 1 + n) (by show 1 + n ≤ 26; omega) (by show 26 ≤ 1000; omega) Mr
  rw [Int.natCast_add] at e2
  refine ⟨t, b2, ?_, hb2, ht, by omega, by omega⟩
  unfold m__law_some_comers
  rw [fnM_eq]
  unfold b__law_some_comers
  simp [e1]
  erw [e2]
  simp
  rw [trim_same (by simp)]
theorem is_number_i (v l h : Int) (M : Mem) : m_is_number [.d (.int v), .d (.int l), .d (.int h)] M = .ok (.d (.bl (decide (l ≤ v) && decide (v ≤ h)))) M := by
  unfold m_is_number
  rw [fnM_eq]
  unfold b_is_number
  simp
  cases (decide (l ≤ v)) <;> simp
/-- no number -/
inductive NoI : D → Prop
  | non : NoI .non
  | bl {b} : NoI (.bl b)
  | str {b} : NoI (.str b)
  | lst {xs : List D} : NoI (.lst xs)
  | tup {xs : List D} : NoI (.tup xs)
theorem is_number_n {d : D} (hd : NoI d) (a b : D) (M : Mem) : m_is_number [.d d, .d a, .d b] M = .ok (.d (.bl false)) M := by
  unfold m_is_number
  rw [fnM_eq]
  unfold b_is_number
  cases hd <;> simp
theorem plA_chars {n : Nat} : ∀ s : List Nat, D.plA n (s.map fun c => .str [c]) = true
  | [] => by simp
  | c :: s => by simp [plA_chars s]
theorem eqvA_chars : ∀ s t : List Nat, D.eqvA (s.map fun c => .str [c]) (t.map fun c => .str [c]) = (s == t)
  | [], [] => rfl
  | [], _ :: _ => rfl
  | _ :: _, [] => rfl
  | a :: s, b :: t => by simp [eqvA_chars s t]
/-- rising letters of L, at most n -/
def rk (L : List Nat) (n : Nat) (s : List Nat) : Bool := decide (1 ≤ s.length) && decide (s.length ≤ n) && s.all (fun c => decide (c ∈ L)) && (s == sortU s)
theorem rk_iff {L : List Nat} {n : Nat} {s : List Nat} : rk L n s = true ↔ 1 ≤ s.length ∧ s.length ≤ n ∧ (∀ c ∈ s, c ∈ L) ∧ s.Pairwise (· < ·) := by
  unfold rk
  simp [and_assoc]
  intro _ _ _
  exact ⟨fun h => by rw [h]; exact sortU_lt s, fun h => (sortU_self h).symm⟩
theorem is_rising_s (s t : List Nat) (n : Nat) (hn : n ≤ 60) (M : Mem) (h : s.length ≤ lim) : m_is_rising [.d (.str s), .d (.str t), .d (.int n)] M = .ok (.d (.bl (rk t n s))) M := by
  unfold m_is_rising
  rw [fnM_eq]
  unfold b_is_rising rk
  simp [h]
  by_cases h1 : (1 : Int) ≤ s.length
  · by_cases h2 : (s.length : Int) ≤ n
    · simp [h1, h2]
      rw [chars, compL_mapA (fun c => D.str [c]) (fun c => .bl (decide (c ∈ t))) s [] (fun x hx => by simp) (by simpa using h)]
      simp [blL_map (fun c => decide (c ∈ t))]
      rw [show decide (1 ≤ s.length) = true by simpa using (show 1 ≤ s.length by omega), show decide (s.length ≤ n) = true by simpa using (show s.length ≤ n by omega)]
      simp only [Function.comp_def, Bool.true_and, id]
      cases (s.all fun c => decide (c ∈ t)) with
      | false => simp
      | true => simp [h, show s.length < 63 by omega, plA_chars, eqvA_chars]
    · rw [show decide (s.length ≤ n) = false by simpa using (show ¬ s.length ≤ n by omega)]
      simp [h1, h2]
  · rw [show decide (1 ≤ s.length) = false by simpa using (show ¬ 1 ≤ s.length by omega)]
    simp [h1]
theorem is_rising_n {d : D} (hd : NoS d) (a b : D) (M : Mem) : m_is_rising [.d d, .d a, .d b] M = .ok (.d (.bl false)) M := by
  unfold m_is_rising
  rw [fnM_eq]
  unfold b_is_rising
  cases hd <;> simp
theorem is_kinds_s (s : List Nat) (M : Mem) (h : s.length ≤ lim) : m_is_kinds [.d (.str s)] M = .ok (.d (.bl (rk azL 6 s))) M := by
  unfold m_is_kinds
  rw [fnM_eq]
  unfold b_is_kinds
  have := is_rising_s s azL 6 (by omega) M h
  simp at this
  simp [this]
theorem is_comers_s (s : List Nat) (M : Mem) (h : s.length ≤ lim) : m_is_comers [.d (.str s)] M = .ok (.d (.bl (rk AZL 4 s))) M := by
  unfold m_is_comers
  rw [fnM_eq]
  unfold b_is_comers
  have := is_rising_s s AZL 4 (by omega) M h
  simp at this
  simp [this]
theorem is_kinds_n {d : D} (hd : NoS d) (M : Mem) : m_is_kinds [.d d] M = .ok (.d (.bl false)) M := by
  unfold m_is_kinds
  rw [fnM_eq]
  unfold b_is_kinds
  simp [is_rising_n hd]
theorem is_comers_n {d : D} (hd : NoS d) (M : Mem) : m_is_comers [.d d] M = .ok (.d (.bl false)) M := by
  unfold m_is_comers
  rw [fnM_eq]
  unfold b_is_comers
  simp [is_rising_n hd]
theorem sub_rk {L t : List Nat} {n : Nat} (hL : L.Pairwise (· < ·)) (h : t.Sublist L) (h1 : 1 ≤ t.length) (h2 : t.length ≤ n) : rk L n t = true :=
  rk_iff.mpr ⟨h1, h2, fun c hc => h.subset hc, hL.sublist h⟩
theorem rk_len {L t : List Nat} {n : Nat} (h : n < t.length) : rk L n t = false := by
  rw [Bool.eq_false_iff]
  intro z
  have := (rk_iff.mp z).2.1
  omega
theorem rk_out {L t : List Nat} {n c : Nat} (h : c ∈ t) (hc : c ∉ L) : rk L n t = false := by
  rw [Bool.eq_false_iff]
  exact fun z => hc ((rk_iff.mp z).2.2.1 c h)
theorem rk_ord {L t : List Nat} {n : Nat} (h : ¬ t.Pairwise (· < ·)) : rk L n t = false := by
  rw [Bool.eq_false_iff]
  exact fun z => h (rk_iff.mp z).2.2.2
end G

/-! objects' mirrors evaluated -/
namespace G
open PySem PySem.Spec PyProof.Rows L2
@[simp] theorem get_last {M : Mem} {x : MO} : (M ++ [x])[M.length]? = some x := by simp
@[simp] theorem set_last {M : Mem} {x y : MO} : (M ++ [x]).set M.length y = M ++ [y] := by simp
def fldK (tab : Nat → Option Nat) (r : Res VD) : Res VD := r.bind (f_fld tab)
@[simp] theorem e_fld_eq {tab m ρ M} : e_fld tab m ρ M = fldK tab (m ρ M) := nrfl rfl
@[simp] theorem fldK_ok {tab v M} : fldK tab (.ok v M) = f_fld tab v M := nrfl rfl
@[simp] theorem f_fld_obj {c i : Nat} {fs : List D} {M} : f_fld (tb c i) (.d (.obj c fs)) M = ixK (fs[i]?) M := by
  unfold f_fld tb ixK
  simp
  all_goals (cases fs[i]? <;> rfl)
def fldA (c i : Nat) (o : Option MO) (M : Mem) : Res VD := match o with
  | some (.ins c' fs) => if c' = c then match fs[i]? with
    | some d => .ok d M
    | none => .fail
    else .fail
  | _ => .fail
@[simp] theorem f_fld_adr {c i j : Nat} {M : Mem} : f_fld (tb c i) (.adr j) M = fldA c i (M[j]?) M := by
  unfold f_fld tb fldA
  dsimp only
  all_goals (
    cases M[j]? with
    | none => rfl
    | some o =>
      cases o with
      | dead => rfl
      | lst _ => rfl
      | lsv _ => rfl
      | ins c' fs =>
        dsimp only
        by_cases h : c' = c
        · simp [h]
          all_goals (cases fs[i]? <;> rfl)
        · simp [h])
def sfldK (tab : Nat → Option Nat) (r : Res VD) (o : Mx VD) (ρ : Env) : Out := r.out fun v M1 => (o ρ M1).out fun x M2 => (f_put tab v x M2).out fun _ M3 => .nx ρ M3
def sfldK2 (tab : Nat → Option Nat) (v : VD) (r : Res VD) (ρ : Env) : Out := r.out fun x M2 => (f_put tab v x M2).out fun _ M3 => .nx ρ M3
def sfldK3 (r : Res Unit) (ρ : Env) : Out := r.out fun _ M3 => .nx ρ M3
@[simp] theorem s_fld_eq {tab m o ρ M} : s_fld tab m o ρ M = sfldK tab (m ρ M) o ρ := nrfl rfl
@[simp] theorem sfldK_ok {tab v M o ρ} : sfldK tab (.ok v M) o ρ = sfldK2 tab v (o ρ M) ρ := nrfl rfl
@[simp] theorem sfldK2_ok {tab v x M ρ} : sfldK2 tab v (.ok x M) ρ = sfldK3 (f_put tab v x M) ρ := nrfl rfl
@[simp] theorem sfldK3_ok {M ρ} : sfldK3 (.ok () M) ρ = .nx ρ M := nrfl rfl
def putK (c i : Nat) (v : VD) (j : Nat) (M : Mem) (o : Option MO) : Res Unit := match o with
  | some (.ins c' fs) => if c' = c then if i ≤ fs.length then .ok () (M.set j (.ins c (if i < fs.length then fs.set i v else fs ++ [v]))) else .fail else .fail
  | _ => .fail
@[simp] theorem f_put_eq {c i j : Nat} {v : VD} {M : Mem} : f_put (tb c i) v (.adr j) M = putK c i v j M (M[j]?) := by
  unfold f_put tb putK
  dsimp only
  all_goals (
    cases M[j]? with
    | none => rfl
    | some o =>
      cases o with
      | dead => rfl
      | lst _ => rfl
      | lsv _ => rfl
      | ins c' fs =>
        dsimp only
        by_cases h : c' = c
        · simp [h]
        · simp [h])
@[simp] theorem putK_ok {c i : Nat} {v : VD} {j : Nat} {M : Mem} {fs : List VD} : putK c i v j M (some (.ins c fs)) = if i ≤ fs.length then .ok () (M.set j (.ins c (if i < fs.length then fs.set i v else fs ++ [v]))) else .fail := by
  unfold putK
  simp
/-! starred -/
def starK (r : Res VD) (rs : Mx (List VD)) (ρ : Env) : Res (List VD) := r.bind fun v M1 => match seqOf M1 v with
  | some ds => (rs ρ M1).bind fun vs M2 => .ok (ds.map .d ++ vs) M2
  | none => .fail
def starK1 (o : Option (List D)) (rs : Mx (List VD)) (ρ : Env) (M1 : Mem) : Res (List VD) := match o with
  | some ds => (rs ρ M1).bind fun vs M2 => .ok (ds.map .d ++ vs) M2
  | none => .fail
def starK2 (ds : List D) (r : Res (List VD)) : Res (List VD) := r.bind fun vs M2 => .ok (ds.map .d ++ vs) M2
@[simp] theorem a_star_eq {a r ρ M} : a_star a r ρ M = starK (a ρ M) r ρ := nrfl rfl
@[simp] theorem starK_ok {v M rs ρ} : starK (.ok v M) rs ρ = starK1 (seqOf M v) rs ρ M := nrfl rfl
@[simp] theorem starK1_ok {ds rs ρ M} : starK1 (some ds) rs ρ M = starK2 ds (rs ρ M) := nrfl rfl
@[simp] theorem starK2_ok {ds vs M} : starK2 ds (.ok vs M) = .ok (ds.map .d ++ vs) M := nrfl rfl
@[simp] theorem seqOf_l {M ds} : seqOf M (.d (.lst ds)) = some ds := nrfl rfl
@[simp] theorem seqOf_t {M ds} : seqOf M (.d (.tup ds)) = some ds := nrfl rfl
def sqK (o : Option MO) : Option (List D) := match o with
  | some (.lst ds) => some ds
  | _ => none
@[simp] theorem seqOf_a {M : Mem} {i : Nat} : seqOf M (.adr i) = sqK (M[i]?) := by
  unfold seqOf sqK
  dsimp only
  all_goals (
    cases M[i]? with
    | none => rfl
    | some m => cases m <;> rfl)
@[simp] theorem sqK_ok {ds} : sqK (some (.lst ds)) = some ds := nrfl rfl
@[simp] theorem dats_map {ds : List D} : dats (ds.map .d) = some ds := by
  induction ds with
  | nil => rfl
  | cons x r ih => rw [List.map_cons, dats_cons, ih]; rfl
theorem dats_app {xs : List D} {ys : List VD} : dats (xs.map .d ++ ys) = (dats ys).map (xs ++ ·) := by
  induction xs with
  | nil => simp
  | cons x r ih =>
    rw [List.map_cons, List.cons_append, dats_cons, ih]
    cases dats ys <;> simp
@[simp] theorem dats_app1 {xs : List D} {y : D} : dats (xs.map .d ++ [.d y]) = some (xs ++ [y]) := by simp [dats_app]
/-! f-strings -/
def jK (r : Res VD) (mj : List Nat → Mx (List Nat)) (acc : List Nat) (ρ : Env) : Res (List Nat) := r.bind fun v M1 => match v with
  | .d (.str s) => if acc.length + s.length ≤ lim then mj (acc ++ s) ρ M1 else .fail
  | _ => .fail
@[simp] theorem j_nil_eq {acc ρ M} : j_nil acc ρ M = .ok acc M := nrfl rfl
@[simp] theorem j_cons_eq {m mj acc ρ M} : j_cons m mj acc ρ M = jK (m ρ M) mj acc ρ := nrfl rfl
@[simp] theorem jK_ok {s M mj acc ρ} : jK (.ok (.d (.str s)) M) mj acc ρ = if acc.length + s.length ≤ lim then mj (acc ++ s) ρ M else .fail := nrfl rfl
def fstrK (r : Res (List Nat)) : Res VD := r.bind fun s M1 => .ok (.d (.str s)) M1
@[simp] theorem e_fstr_eq {mj ρ M} : e_fstr mj ρ M = fstrK (mj [] ρ M) := nrfl rfl
@[simp] theorem fstrK_ok {s M} : fstrK (.ok s M) = .ok (.d (.str s)) M := nrfl rfl
noncomputable def fmtK (r : Res VD) : Res VD := r.bind f_fmt
@[simp] theorem e_fmt_eq {m ρ M} : e_fmt m ρ M = fmtK (m ρ M) := nrfl rfl
@[simp] theorem fmtK_s {s M} : fmtK (.ok (.d (.str s)) M) = if s.length ≤ lim then .ok (.d (.str s)) M else .fail := nrfl rfl
@[simp] theorem fmtK_i {i M} : fmtK (.ok (.d (.int i)) M) = gi (i.natAbs.log2 < 1920) (.ok (.d (.str (itoa i))) M) .fail := nrfl rfl
@[simp] theorem f_str_i {i M} : f_str [.d (.int i)] M = gi (i.natAbs.log2 < 1920) (.ok (.d (.str (itoa i))) M) .fail := nrfl rfl
/-! enumerate -/
def enumAK (r : Res (List VD)) : Res (List D) := r.bind enumI
@[simp] theorem i_enumA_eq {ms ρ M} : i_enumA ms ρ M = enumAK (ms ρ M) := nrfl rfl
@[simp] theorem enumAK_l {ds M} : enumAK (.ok [.d (.lst ds)] M) = .ok (enumL ds 0) M := nrfl rfl
@[simp] theorem enumAK_t {ds M} : enumAK (.ok [.d (.tup ds)] M) = .ok (enumL ds 0) M := nrfl rfl
/-! calls -/
def callPK (m : List VD → Mem → Res VD) (r : Res (List VD)) : Res VD := r.bind m
@[simp] theorem e_callP_eq {m ms ρ M} : e_callP m ms ρ M = callPK m (ms ρ M) := nrfl rfl
@[simp] theorem callPK_ok {m vs M} : callPK m (.ok vs M) = m vs M := nrfl rfl
@[simp] theorem ar_ok {n m} {vs : List VD} {M} (h : vs.length = n) : ar n m vs M = m vs M := if_pos h
def methK (c : Nat) (m : List VD → Mem → Res VD) (r : Res VD) (ms : Mx (List VD)) (ρ : Env) : Res VD := r.bind fun x M1 => if isC c M1 x then (ms ρ M1).bind fun vs M2 => m (x :: vs) M2 else .fail
def methK1 (b : Bool) (m : List VD → Mem → Res VD) (x : VD) (r : Res (List VD)) : Res VD := if b then r.bind fun vs M2 => m (x :: vs) M2 else .fail
@[simp] theorem e_meth_eq {c m mo ms ρ M} : e_meth c m mo ms ρ M = methK c m (mo ρ M) ms ρ := nrfl rfl
@[simp] theorem methK_ok {c m x M ms ρ} : methK c m (.ok x M) ms ρ = methK1 (isC c M x) m x (ms ρ M) := nrfl rfl
@[simp] theorem methK1_ok {m x vs M} : methK1 true m x (.ok vs M) = m (x :: vs) M := nrfl rfl
@[simp] theorem isC_obj {c c' : Nat} {fs M} : isC c M (.d (.obj c' fs)) = (c' == c) := nrfl rfl
@[simp] theorem isC_non {c M} : isC c M (.d .non) = false := nrfl rfl
@[simp] theorem isC_bl {c x M} : isC c M (.d (.bl x)) = false := nrfl rfl
@[simp] theorem isC_int {c x M} : isC c M (.d (.int x)) = false := nrfl rfl
@[simp] theorem isC_str {c x M} : isC c M (.d (.str x)) = false := nrfl rfl
@[simp] theorem isC_lst {c x M} : isC c M (.d (.lst x)) = false := nrfl rfl
@[simp] theorem isC_tup {c x M} : isC c M (.d (.tup x)) = false := nrfl rfl
def isCA (c : Nat) (o : Option MO) : Bool := match o with
  | some (.ins c' _) => c' == c
  | _ => false
@[simp] theorem isC_adr {c j : Nat} {M : Mem} : isC c M (.adr j) = isCA c (M[j]?) := by
  unfold isC isCA
  dsimp only
  all_goals (
    cases M[j]? with
    | none => rfl
    | some m => cases m <;> rfl)
@[simp] theorem isCA_ins {c c' : Nat} {fs} : isCA c (some (.ins c' fs)) = (c' == c) := nrfl rfl
@[simp] theorem isCA_lst {c : Nat} {fs} : isCA c (some (.lst fs)) = false := nrfl rfl
def isCK (c : Nat) (r : Res VD) : Res VD := r.bind (f_isC c)
@[simp] theorem e_isC_eq {c m ρ M} : e_isC c m ρ M = isCK c (m ρ M) := nrfl rfl
theorem isCK_obj {c c' : Nat} {fs M} (h : c' = c) : isCK c (.ok (.d (.obj c' fs)) M) = .ok (.d (.bl true)) M := by
  subst h
  show f_isC c' _ M = _
  unfold f_isC
  simp
@[simp] theorem isCK_self {c : Nat} {fs M} : isCK c (.ok (.d (.obj c fs)) M) = .ok (.d (.bl true)) M := isCK_obj rfl
@[simp] theorem isCK_non {c M} : isCK c (.ok (.d .non) M) = .ok (.d (.bl false)) M := nrfl rfl
@[simp] theorem isCK_bl {c x M} : isCK c (.ok (.d (.bl x)) M) = .ok (.d (.bl false)) M := nrfl rfl
@[simp] theorem isCK_int {c x M} : isCK c (.ok (.d (.int x)) M) = .ok (.d (.bl false)) M := nrfl rfl
@[simp] theorem isCK_str {c x M} : isCK c (.ok (.d (.str x)) M) = .ok (.d (.bl false)) M := nrfl rfl
@[simp] theorem isCK_lst {c x M} : isCK c (.ok (.d (.lst x)) M) = .ok (.d (.bl false)) M := nrfl rfl
@[simp] theorem isCK_tup {c x M} : isCK c (.ok (.d (.tup x)) M) = .ok (.d (.bl false)) M := nrfl rfl
/-! own special methods -/
def ownK (ck : VD → Mem → Res VD) (r : Res VD) : Res VD := r.bind ck
@[simp] theorem f_own_eq {c n m ck x r M} : f_own c n m ck (x :: r) M = if isC c M x && r.length + 1 == n then ownK ck (m (x :: r) M) else .fail := nrfl rfl
@[simp] theorem ownK_ok {ck v M} : ownK ck (.ok v M) = ck v M := nrfl rfl
@[simp] theorem ckBl_ok {neg b M} : ckBl neg (.d (.bl b)) M = .ok (.d (.bl (b != neg))) M := nrfl rfl
@[simp] theorem ckStr_ok {b M} : ckStr (.d (.str b)) M = .ok (.d (.str b)) M := nrfl rfl
theorem ckInt_ok {i : Int} {M} (h : 0 ≤ i ∧ i < 2 ^ 63) : ckInt (.d (.int i)) M = .ok (.d (.int i)) M := gi_pos h
@[simp] theorem f_eqO_eq {c m neg a b M} : f_eqO c m neg a b M = if eqTy c M b then f_own c 2 m (ckBl neg) [a, b] M else .fail := nrfl rfl
@[simp] theorem eqTy_non {c M} : eqTy c M (.d .non) = true := nrfl rfl
@[simp] theorem eqTy_bl {c M x} : eqTy c M (.d (.bl x)) = true := nrfl rfl
@[simp] theorem eqTy_int {c M x} : eqTy c M (.d (.int x)) = true := nrfl rfl
@[simp] theorem eqTy_str {c M x} : eqTy c M (.d (.str x)) = true := nrfl rfl
@[simp] theorem eqTy_lst {c M x} : eqTy c M (.d (.lst x)) = true := nrfl rfl
@[simp] theorem eqTy_tup {c M x} : eqTy c M (.d (.tup x)) = true := nrfl rfl
@[simp] theorem eqTy_obj {c c' : Nat} {M x} : eqTy c M (.d (.obj c' x)) = (c' == c) := nrfl rfl
/-! making -/
def makeV (c k : Nat) (m : List VD → Mem → Res VD) (vs : List VD) (M1 : Mem) : Res VD := (mkI c m vs M1).bind fun _ M2 => frzI c k M1.length M2
def makeK (c k : Nat) (m : List VD → Mem → Res VD) (r : Res (List VD)) : Res VD := r.bind fun vs M1 => (mkI c m vs M1).bind fun _ M2 => frzI c k M1.length M2
@[simp] theorem e_make_eq {c k m ms ρ M} : e_make c k m ms ρ M = makeK c k m (ms ρ M) := nrfl rfl
@[simp] theorem makeK_ok {c k m vs M} : makeK c k m (.ok vs M) = makeV c k m vs M := nrfl rfl
theorem makeV_ok {c k : Nat} {m vs} {M : Mem} {ds : List D} (h : m (.adr M.length :: vs) (M ++ [.ins c []]) = .ok (.d .non) (M ++ [.ins c (ds.map .d)])) (hk : ds.length = k) : makeV c k m vs M = .ok (.d (.obj c ds)) (M ++ [.dead]) := by
  unfold makeV mkI
  rw [h]
  show frzI c k M.length (M ++ [.ins c (ds.map .d)]) = _
  unfold frzI
  rw [get_last]
  dsimp only
  rw [dats_map]
  dsimp only
  rw [if_pos ⟨rfl, hk⟩, set_last]
/-! comprehensions whose list changes -/
def compNK2 (r : Res (List D)) : Res VD := r.bind finN
def compNK (r : Res (List D)) (turn : D → Mem → Res (Option D)) : Res VD := r.bind fun items M1 => (compL turn items M1 []).bind finN
@[simp] theorem e_compN_eq {vs mi mg mt me ρ M} : e_compN vs mi mg mt me ρ M = compNK (mi ρ M) (cTurn vs mg mt me ρ) := nrfl rfl
@[simp] theorem compNK_ok {items M turn} : compNK (.ok items M) turn = compNK2 (compL turn items M []) := nrfl rfl
@[simp] theorem compNK2_ok {ds} {M : Mem} : compNK2 (.ok ds M) = .ok (.adr M.length) (M ++ [.lst ds]) := nrfl rfl
/-! texts, lists -/
@[simp] theorem f_split_eq {a b M} : f_split (.d (.str a)) (.d (.str b)) M = if b.length ≠ 0 ∧ a.length + 2 ≤ lim then .ok (.d (.lst ((splitS a b).map D.str))) M else .fail := nrfl rfl
@[simp] theorem f_listN_l {ds} {M : Mem} : f_listN [.d (.lst ds)] M = .ok (.adr M.length) (M ++ [.lst ds]) := nrfl rfl
@[simp] theorem f_listN_t {ds} {M : Mem} : f_listN [.d (.tup ds)] M = .ok (.adr M.length) (M ++ [.lst ds]) := nrfl rfl
def lenA (o : Option MO) (M : Mem) : Res VD := match o with
  | some (.lst ds) => .ok (.d (.int ds.length)) M
  | _ => .fail
@[simp] theorem f_len_a {j : Nat} {M : Mem} : f_len [.adr j] M = lenA (M[j]?) M := by
  unfold f_len lenOf seqOf lenA
  dsimp only
  all_goals (
    cases M[j]? with
    | none => rfl
    | some m => cases m <;> rfl)
@[simp] theorem lenA_ok {ds M} : lenA (some (.lst ds)) M = .ok (.d (.int ds.length)) M := nrfl rfl
def tupOK (r : Res VD) : Res VD := r.bind f_tup
@[simp] theorem e_tupO_eq {m ρ M} : e_tupO m ρ M = tupOK (m ρ M) := nrfl rfl
@[simp] theorem tupOK_t {ds M} : tupOK (.ok (.d (.tup ds)) M) = .ok (.d (.tup ds)) M := nrfl rfl
@[simp] theorem tupOK_l {ds M} : tupOK (.ok (.d (.lst ds)) M) = .ok (.d (.tup ds)) M := nrfl rfl
def par3K (i j l : Nat) (r : Res (List VD)) (ρ : Env) : Out := r.out fun vs M1 => match vs with
  | [a, b, c] => .nx (((ρ.set i (some a)).set j (some b)).set l (some c)) M1
  | _ => .fail
@[simp] theorem s_par3_eq {i j l ms ρ M} : s_par3 i j l ms ρ M = par3K i j l (ms ρ M) ρ := nrfl rfl
@[simp] theorem par3K_ok {i j l a b c M} {ρ : Env} : par3K i j l (.ok [a, b, c] M) ρ = .nx (((ρ.set i (some a)).set j (some b)).set l (some c)) M := nrfl rfl
/-! a look at things that change -/
@[simp] theorem e_peek_eq {m ρ M} : e_peek m ρ M = peekK (m (nowE M ρ) []) M := nrfl rfl
@[simp] theorem peekK_bl {b M' M} : peekK (.ok (.d (.bl b)) M') M = .ok (.d (.bl b)) M := nrfl rfl
@[simp] theorem nowE_nil {M} : nowE M [] = [] := nrfl rfl
@[simp] theorem nowE_none {M} {ρ : Env} : nowE M (none :: ρ) = none :: nowE M ρ := nrfl rfl
@[simp] theorem nowE_d {M x} {ρ : Env} : nowE M (some (.d x) :: ρ) = some (.d x) :: nowE M ρ := nrfl rfl
def nowM (M : Mem) (o : Option MO) : Option VD := match o with
  | some (.lst ds) => some (.d (.lst ds))
  | some (.lsv vs) => match nowL M vs with
    | some xs => some (.d (.lst xs))
    | none => none
  | _ => none
@[simp] theorem nowE_adr {M : Mem} {j : Nat} {ρ : Env} : nowE M (some (.adr j) :: ρ) = nowM M (M[j]?) :: nowE M ρ := by
  unfold nowE nowM nowV
  simp
  cases M[j]? with
  | none => rfl
  | some m =>
    cases m with
    | lsv vs =>
      dsimp only
      cases nowL M vs <;> rfl
    | dead => rfl
    | lst _ => rfl
    | ins _ _ => rfl
@[simp] theorem nowM_lst {M ds} : nowM M (some (.lst ds)) = some (.d (.lst ds)) := nrfl rfl
@[simp] theorem nowM_dead {M} : nowM M (some .dead) = none := nrfl rfl
theorem nowM_lsv {M : Mem} {vs : List VD} {xs : List D} (h : nowL M vs = some xs) : nowM M (some (.lsv vs)) = some (.d (.lst xs)) := by
  unfold nowM
  dsimp only
  rw [h]
@[simp] theorem nowL_nil {M} : nowL M [] = some [] := nrfl rfl
theorem nowL_d {M x r xs} (h : nowL M r = some xs) : nowL M (.d x :: r) = some (x :: xs) := by
  unfold nowL now0
  rw [h]
theorem nowL_a {M : Mem} {j : Nat} {ds r xs} (h0 : M[j]? = some (.lst ds)) (h : nowL M r = some xs) : nowL M (.adr j :: r) = some (.lst ds :: xs) := by
  unfold nowL now0
  dsimp only
  rw [h0, h]
def lstVK (r : Res (List VD)) : Res VD := r.bind fun vs M1 => if vs.length ≤ lim then .ok (.adr M1.length) (M1 ++ [.lsv vs]) else .fail
@[simp] theorem e_lstV_eq {ms ρ M} : e_lstV ms ρ M = lstVK (ms ρ M) := nrfl rfl
@[simp] theorem lstVK_ok {vs} {M : Mem} : lstVK (.ok vs M) = if vs.length ≤ lim then .ok (.adr M.length) (M ++ [.lsv vs]) else .fail := nrfl rfl
def frzM (o : Option MO) (i j : Nat) (ρ : Env) (M : Mem) : Option (Env × Mem) := match o with
  | some (.lst ds) => some (ρ.set i (some (.d (.lst ds))), M.set j .dead)
  | _ => none
def frzE (o : Option (Option VD)) (i : Nat) (ρ : Env) (M : Mem) : Option (Env × Mem) := match o with
  | some (some (.adr j)) => match M[j]? with
    | some (.lst ds) => some (ρ.set i (some (.d (.lst ds))), M.set j .dead)
    | _ => none
  | some (some (.d (.lst ds))) => some (ρ, M)
  | _ => none
@[simp] theorem frz1_eq {i} {ρ : Env} {M} : frz1 i ρ M = frzE (ρ[i]?) i ρ M := nrfl rfl
@[simp] theorem frzE_a {i j : Nat} {ρ : Env} {M : Mem} : frzE (some (some (.adr j))) i ρ M = frzM (M[j]?) i j ρ M := nrfl rfl
@[simp] theorem frzE_l {i : Nat} {ds} {ρ : Env} {M : Mem} : frzE (some (some (.d (.lst ds)))) i ρ M = some (ρ, M) := nrfl rfl
@[simp] theorem frzM_ok {ds} {i j : Nat} {ρ : Env} {M : Mem} : frzM (some (.lst ds)) i j ρ M = some (ρ.set i (some (.d (.lst ds))), M.set j .dead) := nrfl rfl
/-- the cells behind a def's own are dropped -/
theorem trim_app {x : D} {M l : Mem} (h : M.all (moLt M.length) = true) : trim M.length (.ok (.d x) (M ++ l)) = .ok (.d x) M := by
  unfold trim
  dsimp only
  rw [List.take_left, h]
  rfl
theorem trim_all {x : D} {M : Mem} : trim M.length (.ok (.d x) M) = .ok (.d x) M := trim_same (Nat.le_refl _)
end G

namespace G
open PySem PySem.Spec PyProof.Rows L2 TL
/-! text cut at a sign -/
theorem pre1 {c x : Nat} {r : List Nat} : pre [c] (x :: r) = (x == c) := by
  unfold pre
  simp
theorem spl_free {c : Nat} : ∀ {p acc : List Nat}, c ∉ p → spl [c] 0 acc p = [acc ++ p]
  | [], acc, _ => by simp [spl]
  | x :: p, acc, h => by
    simp at h
    unfold spl
    rw [pre1, if_neg (by simpa using fun e => h.1 e.symm), spl_free h.2]
    simp
theorem spl_next {c : Nat} : ∀ {p acc r : List Nat}, c ∉ p → spl [c] 0 acc (p ++ c :: r) = (acc ++ p) :: spl [c] 0 [] r
  | [], acc, r, _ => by
    rw [List.nil_append]
    rw [spl, pre1, if_pos (by simp)]
    simp
  | x :: p, acc, r, h => by
    simp at h
    rw [List.cons_append, spl, pre1, if_neg (by simpa using fun e => h.1 e.symm), spl_next h.2]
    simp
theorem spl_join {c : Nat} : ∀ {ss : List (List Nat)}, ss ≠ [] → (∀ s ∈ ss, c ∉ s) → spl [c] 0 [] (joinL [c] ss) = ss
  | [], h, _ => absurd rfl h
  | [s], _, h => by
    show spl [c] 0 [] s = [s]
    rw [spl_free (h s (by simp))]
    rfl
  | s :: t :: r, _, h => by
    show spl [c] 0 [] (s ++ ([c] ++ joinL [c] (t :: r))) = _
    rw [show s ++ ([c] ++ joinL [c] (t :: r)) = s ++ c :: joinL [c] (t :: r) from rfl, spl_next (h s (by simp)), spl_join (by simp) (fun s hs => h s (by simp at hs ⊢; exact .inr hs))]
    rfl
theorem tl_enc (s : List Nat) : tl (enc s) = s := rfl
theorem splitS_eq {c : Nat} (hc : c < 256) (s : List Nat) : splitS s [c] = spl [c] 0 [] s := by
  unfold splitS
  rw [split_spl (enc s) (enc [c]) (by rw [tl_enc]; simp) (kind_ok (by
    show (enc [c]).cps.all (· < 256) = true
    rw [← Array.all_toList]
    simpa [enc] using hc))]
  rfl
theorem splitS_join {c : Nat} (hc : c < 256) {ss : List (List Nat)} (h0 : ss ≠ []) (h : ∀ s ∈ ss, c ∉ s) : splitS (joinL [c] ss) [c] = ss := by
  rw [splitS_eq hc, spl_join h0 h]
theorem joinL_len {c : Nat} : ∀ ss : List (List Nat), (joinL [c] ss).length ≤ szs ss + ss.length
  | [] => by simp [joinL]
  | [s] => by
    show s.length ≤ _
    simp [szs]
  | s :: t :: r => by
    have := joinL_len (c := c) (t :: r)
    show (s ++ ([c] ++ joinL [c] (t :: r))).length ≤ _
    simp [szs] at this ⊢
    omega
/-! cells that name none behind -/
theorem vLt_mono {n k : Nat} (h : n ≤ k) {v : VD} (q : vLt n v = true) : vLt k v = true := by
  cases v with
  | d _ => rfl
  | adr i =>
    have : i < n := of_decide_eq_true q
    exact decide_eq_true (by omega)
theorem moLt_mono {n k : Nat} (h : n ≤ k) {m : MO} (q : moLt n m = true) : moLt k m = true := by
  cases m with
  | dead => rfl
  | lst _ => rfl
  | ins c fs => exact List.all_eq_true.mpr fun v hv => vLt_mono h (List.all_eq_true.mp q v hv)
  | lsv fs => exact List.all_eq_true.mpr fun v hv => vLt_mono h (List.all_eq_true.mp q v hv)
def Lst (M : Mem) : Prop := ∀ m ∈ M, moLt M.length m = true
theorem Lst.nil : Lst [] := fun m h => by cases h
theorem Lst.cons {b : Bag} {M : Mem} (h : Lst M) : Lst (mo b :: M) := fun m hm => by
  rcases List.mem_cons.mp hm with rfl | hm
  · rfl
  · exact moLt_mono (by simp) (h m hm)
theorem Lst.snoc' {m : MO} {M : Mem} (h : Lst M) (hm0 : moLt (M.length + 1) m = true) : Lst (M ++ [m]) := fun m' hm => by
  rcases List.mem_append.mp hm with hm | hm
  · exact moLt_mono (by simp) (h m' hm)
  · simp at hm
    subst hm
    simpa using hm0
theorem Lst.snoc {ds : List D} {M : Mem} (h : Lst M) : Lst (M ++ [.lst ds]) := h.snoc' rfl
theorem Lst.snocD {M : Mem} (h : Lst M) : Lst (M ++ [.dead]) := h.snoc' rfl
theorem Lst.all {M : Mem} (h : Lst M) : M.all (moLt M.length) = true := List.all_eq_true.mpr h
theorem trimL {x : D} {M l : Mem} (h : Lst M) : trim M.length (.ok (.d x) (M ++ l)) = .ok (.d x) M := trim_app h.all
theorem trimC {x : D} {b : Bag} {M l : Mem} (h : Lst M) : trim (M.length + 1) (.ok (.d x) (mo b :: (M ++ l))) = .ok (.d x) (mo b :: M) := trimL (M := mo b :: M) (Lst.cons h)
/-! parts -/
def PartOk (L p : List Nat) : Prop := p = [46] ∨ (p ≠ [] ∧ p.Sublist L)
theorem is_part_ok {L p : List Nat} (h : PartOk L p) (hL : L.Pairwise (· < ·)) (hl : L.length ≤ 30) (M : Mem) : m_is_part [.d (.str p), .d (.str L)] M = .ok (.d (.bl true)) M := by
  have hlim := lim_eq
  unfold m_is_part
  rw [fnM_eq]
  unfold b_is_part
  by_cases e : p = [46]
  · subst e
    simp
  · obtain ⟨h0, h1⟩ := h.resolve_left e
    have hp := h1.length_le
    simp [show (p == [46]) = false by simpa using e, show L.length ≤ lim by omega]
    rw [is_rising_s p L L.length (by omega) M (by omega), rk_iff.mpr ⟨by cases p with | nil => exact absurd rfl h0 | cons a l => simp, hp, fun c hc => h1.subset hc, hL.sublist h1⟩]
    simp
theorem compL_sub {turn : D → Mem → Res (Option D)} (I : Mem → Prop) : ∀ (L : List Nat) (acc : List D) (M : Mem), I M → (∀ c ∈ L, ∀ M, I M → ∃ o M2, turn (.str [c]) M = .ok o M2 ∧ I M2 ∧ (o = none ∨ o = some (.str [c]))) → acc.length + L.length ≤ lim → ∃ (p : List Nat) (M2 : Mem), compL turn (L.map fun c => .str [c]) M acc = .ok (acc ++ p.map fun c => .str [c]) M2 ∧ I M2 ∧ p.Sublist L
  | [], acc, M, h, _, _ => ⟨[], M, by simp, h, List.Sublist.refl _⟩
  | c :: L, acc, M, h, hs, hl => by
    obtain ⟨o, M2, e, h2, ho⟩ := hs c List.mem_cons_self M h
    rw [List.map_cons, compL_cons, e]
    rcases ho with rfl | rfl
    · obtain ⟨p, M3, e3, h3, hp⟩ := compL_sub I L acc M2 h2 (fun z hz => hs z (List.mem_cons_of_mem _ hz)) (by simp at hl ⊢; omega)
      exact ⟨p, M3, by rw [clK_none, e3], h3, hp.cons _⟩
    · obtain ⟨p, M3, e3, h3, hp⟩ := compL_sub I L (acc ++ [.str [c]]) M2 h2 (fun z hz => hs z (List.mem_cons_of_mem _ hz)) (by simp at hl ⊢; omega)
      exact ⟨c :: p, M3, by rw [clK_some, if_pos (by simp at hl; omega), e3]; simp, h3, hp.cons₂ _⟩
theorem part_ok {b : Bag} (hb : BagOk b) {L : List Nat} (hl : L.length ≤ 30) {Mr : Mem} (hM : Lst Mr) : ∃ p b', m__law_part [.adr 0, .d (.str L)] (mo b :: Mr) = .ok (.d (.str p)) (mo b' :: Mr) ∧ BagOk b' ∧ PartOk L p := by
  have hlim := lim_eq
  unfold m__law_part
  rw [fnM_eq]
  unfold b__law_part
  simp
  obtain ⟨p, M2, e, ⟨b2, hb2, rfl⟩, hp⟩ := compL_sub (turn := cTurn [3] (g_name 3) (e_asB (e_op f_eq (e_call 2 m__law_draw (a_cons (e_var 0) (a_cons (e_c (D.int 2)) a_nil))) (e_c (D.int 0)))) (e_var 3) [some (VD.adr 0), some (VD.d (D.str L)), none, none]) (fun M => ∃ b, BagOk b ∧ M = mo b :: Mr) L [] (mo b :: Mr) ⟨b, hb, rfl⟩ (by
    rintro c hc M ⟨b, hb, rfl⟩
    obtain ⟨v, b2, e, hb2, hv, hv2⟩ := draw_ok hb (many := 2) (by omega) (by omega) Mr
    by_cases h0 : v = 0
    · exact ⟨some (.str [c]), mo b2 :: Mr, by simp [e, h0], ⟨b2, hb2, rfl⟩, .inr rfl⟩
    · exact ⟨none, mo b2 :: Mr, by simp [e, show (v == 0) = false by simpa using h0], ⟨b2, hb2, rfl⟩, .inl rfl⟩) (by simp; omega)
  rw [chars, e]
  have hp2 := hp.length_le
  have e3 := stL_chars p
  rw [chars] at e3
  simp [e3, szs_chars, joinL_nil, flat_chars, show p.length ≤ lim by omega]
  by_cases h0 : p = []
  · rw [h0]
    refine ⟨[46], b2, ?_, hb2, .inl rfl⟩
    have := trimC (x := D.str [46]) (b := b2) (l := []) hM
    simpa using this
  · have h0' : p.isEmpty = false := by cases p with | nil => exact absurd rfl h0 | cons a l => rfl
    obtain ⟨v, b3, e3, hb3, hv, hv2⟩ := draw_ok hb2 (many := 3) (by omega) (by omega) Mr
    simp [h0', e3]
    by_cases h1 : 0 < v
    · simp [h1]
      refine ⟨p, b3, ?_, hb3, .inr ⟨h0, hp⟩⟩
      have := trimC (x := D.str p) (b := b3) (l := []) hM
      simpa using this
    · simp [h1]
      refine ⟨[46], b3, ?_, hb3, .inl rfl⟩
      have := trimC (x := D.str [46]) (b := b3) (l := []) hM
      simpa using this
theorem string_ok {b : Bag} (hb : BagOk b) {t : List Nat} (h0 : t ≠ []) (hl : t.length ≤ 30) {most : Nat} (hm : most ≤ 100) {Mr : Mem} (hM : Lst Mr) : ∃ s b', m__law_string [.adr 0, .d (.str t), .d (.int most)] (mo b :: Mr) = .ok (.d (.str s)) (mo b' :: Mr) ∧ BagOk b' ∧ (∀ c ∈ s, c ∈ t) ∧ s.length ≤ most := by
  have hlim := lim_eq
  obtain ⟨v, b1, e1, hb1, hv, hv2⟩ := draw_ok hb (many := most + 1) (by omega) (by omega) Mr
  obtain ⟨n, rfl⟩ := Int.eq_ofNat_of_zero_le hv
  unfold m__law_string
  rw [fnM_eq]
  unfold b__law_string
  simp [e1]
  rw [rngK1_nat (by omega)]
  simp
  obtain ⟨ys, M2, e3, ⟨b3, hb3, rfl⟩, hn3, hy⟩ := compL_inv (turn := cTurn [3] (g_name 3) e_yes (e_call 2 m__law_of (a_cons (e_var 0) (a_cons (e_var 1) a_nil))) [some (VD.adr 0), some (VD.d (D.str t)), some (VD.d (D.int most)), none]) (fun M => ∃ b, BagOk b ∧ M = mo b :: Mr) (fun y => ∃ c ∈ t, y = .str [c]) (range 0 n) [] (mo b1 :: Mr) ⟨b1, hb1, rfl⟩ (fun x hx M ⟨b, hb, e⟩ => by
      subst e
      obtain ⟨c, b', e, hb', hc⟩ := ofs_ok hb h0 (by omega) Mr
      exact ⟨.str [c], mo b' :: Mr, by simp [e], ⟨b', hb', rfl⟩, c, hc, rfl⟩) (by simp [range]; omega)
  obtain ⟨s, rfl, hs⟩ := chars_of hy
  obtain rfl : s.length = n := by simpa [chars, range] using hn3
  rw [e3]
  simp [stL_chars, szs_chars, joinL_nil, flat_chars, show s.length ≤ lim by omega]
  refine ⟨s, b3, ?_, hb3, hs, by omega⟩
  have := trimC (x := D.str s) (b := b3) (l := []) hM
  simpa using this
end G

namespace G
open PySem PySem.Spec PyProof.Rows L2 TL
/-- a line of a book -/
structure Ln where
  a : List Nat
  b : List Nat
  c : List Nat
  w : List Nat
def Ln.d (l : Ln) : D := .tup [.str l.a, .str l.b, .str l.c, .str l.w]
structure LnOk (t u : List Nat) (l : Ln) : Prop where
  a : PartOk (60 :: t) l.a
  b : PartOk u l.b
  c : PartOk (62 :: t) l.c
  w : ∀ x ∈ l.w, x ∈ t
  n : l.w.length ≤ 3
structure BkOk (t u : List Nat) : Prop where
  st : t.Sublist azL
  su : u.Sublist AZL
  t1 : 1 ≤ t.length
  t6 : t.length ≤ 6
  u1 : 1 ≤ u.length
  u4 : u.length ≤ 4
/-- what _law_some_book yields -/
def specD (t u : List Nat) (ls : List Ln) : D := .lst [.str t, .str u, .lst (ls.map Ln.d)]
theorem draw_okL {b : Bag} (hb : BagOk b) {t u : List Nat} (h : BkOk t u) {most : Nat} (hm : most ≤ 3) {Mr : Mem} (hM : Lst Mr) : ∃ l b', m__law_line [.adr 0, .d (.str t), .d (.str u), .d (.int most)] (mo b :: Mr) = .ok (.d (Ln.d l)) (mo b' :: Mr) ∧ BagOk b' ∧ LnOk t u l := by
  have hlim := lim_eq
  have h6 := h.t6
  have h4 := h.u4
  have ht0 : t ≠ [] := fun e => by have := h.t1; rw [e] at this; simp at this
  obtain ⟨p1, b1, e1, hb1, q1⟩ := part_ok hb (L := 60 :: t) (by simp; omega) hM
  obtain ⟨p2, b2, e2, hb2, q2⟩ := part_ok hb1 (L := u) (by omega) hM
  obtain ⟨p3, b3, e3, hb3, q3⟩ := part_ok hb2 (L := 62 :: t) (by simp; omega) hM
  obtain ⟨s, b4, e4, hb4, q4, q5⟩ := string_ok hb3 ht0 (by omega) (most := most) (by omega) hM
  refine ⟨⟨p1, p2, p3, s⟩, b4, ?_, hb4, ⟨q1, q2, q3, q4, by show s.length ≤ 3; omega⟩⟩
  unfold m__law_line
  rw [fnM_eq]
  unfold b__law_line
  simp (disch := first | (simp; done) | omega) [e1, e2, e3, e4, ifl]
  have := trimC (x := Ln.d ⟨p1, p2, p3, s⟩) (b := b4) (l := []) hM
  simpa [Ln.d] using this
theorem compL_lns {turn : D → Mem → Res (Option D)} (I : Mem → Prop) (P : Ln → Prop) (items : List D) (M : Mem) (h : I M) (hs : ∀ x ∈ items, ∀ M, I M → ∃ y M2, turn x M = .ok (some (Ln.d y)) M2 ∧ I M2 ∧ P y) (hl : items.length ≤ lim) : ∃ (ls : List Ln) (M2 : Mem), compL turn items M [] = .ok (ls.map Ln.d) M2 ∧ I M2 ∧ ls.length = items.length ∧ ∀ y ∈ ls, P y := by
  obtain ⟨ys, M2, e, h2, h3, h4⟩ := compL_inv (turn := turn) I (fun d => ∃ l, d = Ln.d l ∧ P l) items [] M h (fun x hx M hM => by
    obtain ⟨y, M2, e, h2, hp⟩ := hs x hx M hM
    exact ⟨_, M2, e, h2, y, rfl, hp⟩) (by simpa using hl)
  have : ∃ ls : List Ln, ys = ls.map Ln.d ∧ ∀ y ∈ ls, P y := by
    clear e h3
    induction ys with
    | nil => exact ⟨[], rfl, by simp⟩
    | cons y ys ih =>
      obtain ⟨l, rfl, hp⟩ := h4 y (by simp)
      obtain ⟨ls, rfl, hq⟩ := ih fun z hz => h4 z (by simp [hz])
      exact ⟨l :: ls, rfl, by simpa using ⟨hp, hq⟩⟩
  obtain ⟨ls, rfl, hp⟩ := this
  exact ⟨ls, M2, by simpa using e, h2, by simpa using h3, hp⟩
theorem some_book_ok {b : Bag} (hb : BagOk b) {s0 s1 s2 s3 : Nat} (h0 : 1 ≤ s0 ∧ s0 ≤ 6) (h1 : 1 ≤ s1 ∧ s1 ≤ 4) (h2 : s2 ≤ 8) (h3 : s3 ≤ 3) {Mr : Mem} (hM : Lst Mr) : ∃ t u ls b', m__law_some_book [.adr 0, .d (.lst [.int s0, .int s1, .int s2, .int s3])] (mo b :: Mr) = .ok (.d (specD t u ls)) (mo b' :: Mr) ∧ BagOk b' ∧ BkOk t u ∧ ls.length ≤ s2 ∧ (∀ l ∈ ls, LnOk t u l) ∧ t.length ≤ s0 ∧ u.length ≤ s1 := by
  have hlim := lim_eq
  obtain ⟨t, b1, e1, hb1, k1, k2, k3⟩ := some_kinds_ok hb (most := s0) (by omega) (by omega) Mr
  obtain ⟨u, b2, e2, hb2, k4, k5, k6⟩ := some_comers_ok hb1 (most := s1) (by omega) (by omega) Mr
  have hk : BkOk t u := ⟨k1, k4, k2, by omega, k5, by omega⟩
  obtain ⟨v, b3, e3, hb3, hv, hv2⟩ := draw_ok hb2 (many := s2 + 1) (by omega) (by omega) Mr
  obtain ⟨n, rfl⟩ := Int.eq_ofNat_of_zero_le hv
  unfold m__law_some_book
  rw [fnM_eq]
  unfold b__law_some_book
  simp (disch := first | (simp; done) | omega) [e1, e2, e3, ifl]
  obtain ⟨ls, M2, e4, ⟨b4, hb4, rfl⟩, hn, hls⟩ := compL_lns (turn := cTurn [5] (g_name 5) e_yes (e_call 4 m__law_line (a_cons (e_var 0) (a_cons (e_var 3) (a_cons (e_var 4) (a_cons (e_op f_ix (e_var 1) (e_c (D.int 3))) a_nil))))) [some (VD.adr 0), some (VD.d (D.lst [D.int s0, D.int s1, D.int s2, D.int s3])), none, some (VD.d (D.str t)), some (VD.d (D.str u)), none]) (fun M => ∃ b, BagOk b ∧ M = mo b :: Mr) (LnOk t u) (range 0 n) (mo b3 :: Mr) ⟨b3, hb3, rfl⟩ (fun x hx M ⟨b, hb, e⟩ => by
    subst e
    obtain ⟨l, b', e, hb', hl⟩ := draw_okL hb hk h3 hM
    exact ⟨l, mo b' :: Mr, by simp [e], ⟨b', hb', rfl⟩, hl⟩) (by simp [range]; omega)
  rw [e4]
  have hn : ls.length = n := by simpa [range] using hn
  obtain ⟨v, b5, e5, hb5, hv, hv2⟩ := draw_ok hb4 (many := 3) (by omega) (by omega) (Mr ++ [.lst (ls.map Ln.d)])
  simp [e5]
  have fin : ∀ (ls : List Ln) (b : Bag), trim (Mr.length + 1) (.ok (.d (specD t u ls)) (mo b :: (Mr ++ [.dead]))) = .ok (.d (specD t u ls)) (mo b :: Mr) := fun ls b => trimC hM
  by_cases c : 0 < v ∧ (ls.length : Int) < s2
  · obtain ⟨c', b6, e6, hb6, hc⟩ := ofs_ok hb5 (s := t) (fun e => by rw [e] at k2; simp at k2) (by omega) (Mr ++ [.lst (ls.map Ln.d)])
    refine ⟨t, u, ls ++ [⟨[46], [46], [46], [c']⟩], b6, ?_, hb6, hk, by simp; omega, ?_, by omega, by omega⟩
    · simp [c.1, c.2, e6]
      simp (disch := first | (simp; done) | omega) [ifl, ifL]
      have := fin (ls ++ [⟨[46], [46], [46], [c']⟩]) b6
      simpa [specD, Ln.d] using this
    · intro l hl
      rcases List.mem_append.mp hl with hl | hl
      · exact hls l hl
      · simp at hl
        subst hl
        exact ⟨.inl rfl, .inl rfl, .inl rfl, fun x hx => by simp at hx; subst hx; exact hc, by simp⟩
  · refine ⟨t, u, ls, b5, ?_, hb5, hk, by omega, hls, by omega, by omega⟩
    have e7 : (decide (0 < v) && decide ((ls.length : Int) < s2)) = false := by
      rw [Bool.and_eq_false_iff]
      by_cases c1 : 0 < v
      · exact .inr (by simpa using fun h => c ⟨c1, h⟩)
      · exact .inl (by simpa using c1)
    by_cases c1 : 0 < v
    · have c2 : ¬ (ls.length : Int) < s2 := fun h => c ⟨c1, h⟩
      simp [c1, c2]
      simp (disch := first | (simp; done) | omega) [ifl, ifL]
      exact fin ls b5
    · simp [c1]
      simp (disch := first | (simp; done) | omega) [ifl, ifL]
      exact fin ls b5
end G

namespace G
open PySem PySem.Spec PyProof.Rows L2 TL
def lnT (l : Ln) : List Nat := joinL [32] [l.a, l.b, l.c, if l.w = [] then [45] else l.w]
def bookT (t u : List Nat) (ls : List Ln) : List Nat := joinL [10] ((t ++ 32 :: u) :: ls.map lnT)
def bookD (t u : List Nat) (ls : List Ln) : D := .obj 0 [.str t, .str u, .lst (ls.map Ln.d)]
theorem PartOk.ne {L p : List Nat} (h : PartOk L p) : p ≠ [] := by
  rcases h with rfl | h
  · simp
  · exact h.1
theorem PartOk.len {L p : List Nat} (h : PartOk L p) : p.length ≤ L.length + 1 := by
  rcases h with rfl | h
  · simp
  · have := h.2.length_le
    omega
theorem PartOk.ge {L p : List Nat} (h : PartOk L p) (hL : ∀ x ∈ L, 46 ≤ x) : ∀ x ∈ p, 46 ≤ x := by
  rcases h with rfl | h
  · simp
  · exact fun x hx => hL x (h.2.subset hx)
theorem BkOk.tge {t u : List Nat} (h : BkOk t u) : ∀ x ∈ t, 97 ≤ x := fun x hx => by
  have := h.st.subset hx
  simp [azL] at this
  omega
theorem BkOk.uge {t u : List Nat} (h : BkOk t u) : ∀ x ∈ u, 65 ≤ x := fun x hx => by
  have := h.su.subset hx
  simp [AZL] at this
  omega
/-- lengths and signs of a line's parts -/
structure LnS (l : Ln) : Prop where
  a1 : l.a.length ≤ 8
  b1 : l.b.length ≤ 8
  c1 : l.c.length ≤ 8
  w1 : l.w.length ≤ 3
  a2 : l.a ≠ []
  b2 : l.b ≠ []
  c2 : l.c ≠ []
  a3 : ∀ x ∈ l.a, 46 ≤ x
  b3 : ∀ x ∈ l.b, 46 ≤ x
  c3 : ∀ x ∈ l.c, 46 ≤ x
  w3 : ∀ x ∈ l.w, 46 ≤ x
theorem LnOk.s {t u : List Nat} {l : Ln} (h : LnOk t u l) (k : BkOk t u) : LnS l := by
  have h6 := k.t6
  have h4 := k.u4
  have ht := k.tge
  have hu := k.uge
  refine ⟨?_, ?_, ?_, h.n, h.a.ne, h.b.ne, h.c.ne, h.a.ge ?_, h.b.ge ?_, h.c.ge ?_, fun x hx => ?_⟩
  · have := h.a.len
    simp at this
    omega
  · have := h.b.len
    omega
  · have := h.c.len
    simp at this
    omega
  · intro x hx
    rcases List.mem_cons.mp hx with rfl | hx
    · omega
    · have := ht x hx
      omega
  · intro x hx
    have := hu x hx
    omega
  · intro x hx
    rcases List.mem_cons.mp hx with rfl | hx
    · omega
    · have := ht x hx
      omega
  · have := ht x (h.w x hx)
    omega
theorem lnT_len {l : Ln} (h : LnS l) : (lnT l).length ≤ 40 := by
  have := joinL_len (c := 32) [l.a, l.b, l.c, if l.w = [] then [45] else l.w]
  obtain ⟨a1, b1, c1, w1, -, -, -, -, -, -, -⟩ := id h
  unfold lnT
  by_cases e : l.w = []
  · simp [e, szs] at this ⊢
    omega
  · simp [e, szs] at this ⊢
    omega
theorem lnT_ge {l : Ln} (h : LnS l) : ∀ x ∈ lnT l, x ≠ 10 := by
  have ⟨_, _, _, _, _, _, _, a3, b3, c3, w3⟩ := h
  intro x hx
  unfold lnT at hx
  by_cases e : l.w = []
  · simp [e, joinL] at hx
    rcases hx with hx | hx | hx | hx | hx | hx | hx
    · have := a3 x hx; omega
    · omega
    · have := b3 x hx; omega
    · omega
    · have := c3 x hx; omega
    · omega
    · omega
  · simp [e, joinL] at hx
    rcases hx with hx | hx | hx | hx | hx | hx | hx
    · have := a3 x hx; omega
    · omega
    · have := b3 x hx; omega
    · omega
    · have := c3 x hx; omega
    · omega
    · have := w3 x hx; omega
theorem line_text_ok {l : Ln} (h : LnS l) (M : Mem) : m__law_line_text [.d (Ln.d l)] M = .ok (.d (.str (lnT l))) M := by
  have hlim := lim_eq
  obtain ⟨a1, b1, c1, w1, -, -, -, -, -, -, -⟩ := id h
  unfold m__law_line_text
  rw [fnM_eq]
  unfold b__law_line_text lnT
  by_cases e : l.w = []
  · simp (disch := first | (simp; done) | omega) [Ln.d, e, ifl, szs]
  · simp (disch := first | (simp; done) | omega) [Ln.d, e, ifl, szs, show l.w.isEmpty = false by cases q : l.w with | nil => exact absurd q e | cons a l => rfl]
theorem szs_le {k : Nat} : ∀ {ss : List (List Nat)}, (∀ s ∈ ss, s.length ≤ k) → szs ss ≤ k * ss.length
  | [], _ => by simp [szs]
  | s :: r, h => by
    have h1 := h s (by simp)
    have h2 := szs_le (ss := r) fun x hx => h x (by simp [hx])
    simp [szs, Nat.mul_add]
    omega
theorem book_text_ok {t u : List Nat} {ls : List Ln} (k : BkOk t u) (h : ∀ l ∈ ls, LnS l) (hn : ls.length ≤ 8) (M : Mem) : m__law_book_text [.d (specD t u ls)] M = .ok (.d (.str (bookT t u ls))) M := by
  have hlim := lim_eq
  have h6 := k.t6
  have h4 := k.u4
  have hs : szs (ls.map lnT) ≤ 40 * ls.length := by
    have := szs_le (k := 40) (ss := ls.map lnT) (fun s hs => by
      obtain ⟨l, hl, rfl⟩ := List.mem_map.mp hs
      exact lnT_len (h l hl))
    simpa using this
  unfold m__law_book_text
  rw [fnM_eq]
  unfold b__law_book_text bookT
  simp (disch := first | (simp; done) | omega) [specD, ifl]
  rw [compL_mapA Ln.d (fun l => D.str (lnT l)) ls [] (fun l hl => by simp [line_text_ok (h l hl)]) (by simp; omega)]
  simp (disch := first | (simp; done) | omega) [ifl, szs]
theorem cut3 {α : Type} {a b c : α} {r : List α} : cut (a :: b :: c :: r) none (some 3) = [a, b, c] := by
  have := cut_take (xs := a :: b :: c :: r) (n := 3) (by simp)
  exact this
theorem splitLn {l : Ln} (h : LnS l) : splitS (lnT l) [32] = [l.a, l.b, l.c, if l.w = [] then [45] else l.w] := by
  obtain ⟨-, -, -, -, -, -, -, a3, b3, c3, w3⟩ := id h
  unfold lnT
  refine splitS_join (by decide) (by simp) fun s hs hx => ?_
  simp at hs
  rcases hs with rfl | rfl | rfl | rfl
  · have := a3 _ hx; omega
  · have := b3 _ hx; omega
  · have := c3 _ hx; omega
  · split at hx
    · simp at hx
    · have := w3 _ hx; omega
theorem line_of_ok {l : Ln} (h : LnS l) (M : Mem) : m_line_of [.d (.str (lnT l))] M = .ok (.d (Ln.d l)) M := by
  have hlim := lim_eq
  have hl := lnT_len h
  have hsp := splitLn h
  obtain ⟨a1, b1, c1, w1, a2, b2, c2, a3, b3, c3, w3⟩ := id h
  unfold m_line_of
  rw [fnM_eq]
  unfold b_line_of
  have na : l.a.isEmpty = false := by simpa using a2
  have nb : l.b.isEmpty = false := by simpa using b2
  have nc : l.c.isEmpty = false := by simpa using c2
  by_cases e : l.w = []
  · rw [if_pos e] at hsp
    simp (disch := first | (simp; done) | omega) [hsp, ifl, show (lnT l).length + 2 ≤ lim by omega, na, nb, nc, cut3, Ln.d, e]
  · rw [if_neg e] at hsp
    have nw : (l.w == [45]) = false := by
      rw [beq_eq_false_iff_ne]
      intro q
      have := w3 45 (by rw [q]; simp)
      omega
    simp (disch := first | (simp; done) | omega) [hsp, ifl, show (lnT l).length + 2 ≤ lim by omega, na, nb, nc, show l.w.isEmpty = false by simpa using e, cut3, Ln.d, e, nw]
theorem BkOk.rt {t u : List Nat} (h : BkOk t u) : rk azL 6 t = true := rk_iff.mpr ⟨h.t1, h.t6, fun c hc => h.st.subset hc, az_lt.sublist h.st⟩
theorem BkOk.ru {t u : List Nat} (h : BkOk t u) : rk AZL 4 u = true := rk_iff.mpr ⟨h.u1, h.u4, fun c hc => h.su.subset hc, AZ_lt.sublist h.su⟩
theorem is_line_ok {t u : List Nat} {l : Ln} (k : BkOk t u) (h : LnOk t u l) (M : Mem) : m_is_line [.d (Ln.d l), .d (.str t), .d (.str u)] M = .ok (.d (.bl true)) M := by
  have hlim := lim_eq
  have h6 := k.t6
  have h4 := k.u4
  have ht := k.tge
  have tl := az_lt.sublist k.st
  have hs := h.s k
  obtain ⟨a1, b1, c1, w1, a2, b2, c2, a3, b3, c3, w3⟩ := id hs
  have pa := is_part_ok h.a (List.pairwise_cons.mpr ⟨fun x hx => by have := ht x hx; omega, tl⟩) (by simp; omega) M
  have pb := is_part_ok h.b (AZ_lt.sublist k.su) (by omega) M
  have pc := is_part_ok h.c (List.pairwise_cons.mpr ⟨fun x hx => by have := ht x hx; omega, tl⟩) (by simp; omega) M
  have pw := is_word_s l.w t M (by omega)
  have aw : (l.w.all fun c => decide (c ∈ t)) = true := by simpa using h.w
  rw [aw] at pw
  unfold m_is_line
  rw [fnM_eq]
  unfold b_is_line
  simp (disch := first | (simp; done) | omega) [Ln.d, ifl, pa, pb, pc, pw]
  omega
theorem enumL_mem : ∀ {ds : List D} {k : Nat} {x : D}, x ∈ enumL ds k → ∃ i d, x = .tup [.int (i : Nat), d] ∧ k ≤ i ∧ i < k + ds.length ∧ d ∈ ds
  | [], _, _, h => by simp [enumL] at h
  | d :: r, k, x, h => by
    rw [enumL] at h
    rcases List.mem_cons.mp h with rfl | h
    · exact ⟨k, d, rfl, Nat.le_refl _, by simp, by simp⟩
    · obtain ⟨i, d', rfl, h1, h2, h3⟩ := enumL_mem h
      exact ⟨i, d', rfl, by omega, by simp; omega, by simp [h3]⟩
theorem init_ok {t u : List Nat} {ls : List Ln} (k : BkOk t u) (h : ∀ l ∈ ls, LnOk t u l) (hn : ls.length ≤ 8) (M : Mem) : p_Book___init__ (.adr M.length :: .d (.str t) :: .d (.str u) :: (ls.map Ln.d).map .d) (M ++ [.ins 0 []]) = .ok (.d .non) (M ++ [.ins 0 ([.str t, .str u, .lst (ls.map Ln.d)].map .d)]) := by
  have hlim := lim_eq
  have h6 := k.t6
  have h4 := k.u4
  unfold p_Book___init__ arS
  rw [if_pos (by simp)]
  show (match dats ((ls.map Ln.d).map VD.d) with | some rest => _ | none => _) = _
  rw [dats_map]
  dsimp only
  rw [if_pos (by simp; omega)]
  unfold m_Book___init__
  rw [fnM_eq]
  unfold b_Book___init__
  simp (disch := first | (simp; done) | omega) [is_kinds_s, is_comers_s, k.rt, k.ru]
  obtain ⟨ρ2, M2, e, x4, x5, rfl, rfl⟩ := forL_inv (mg := g_tup 2 (g_cons (g_name 4) (g_cons (g_name 5) g_nil))) (body := s_if (e_orT (e_asB (e_op f_ge (e_var 4) (e_c (.int 8)))) (e_notT (e_truth (e_call 3 m_is_line (a_cons (e_var 5) (a_cons (e_var 1) (a_cons (e_var 2) a_nil))))))) s_fail s_skip) (fun ρ M' => ∃ x4 x5, ρ = [some (.adr M.length), some (.d (.str t)), some (.d (.str u)), some (.d (.tup (ls.map Ln.d))), x4, x5] ∧ M' = M ++ [.ins 0 []]) (enumL (ls.map Ln.d) 0) (by
    rintro x hx ρ M' ⟨x4, x5, rfl, rfl⟩
    obtain ⟨i, d, rfl, h1, h2, h3⟩ := enumL_mem hx
    obtain ⟨l, hl, rfl⟩ := List.mem_map.mp h3
    simp at h2
    refine ⟨_, _, _, rfl, ?_, some (.d (.int i)), some (.d (Ln.d l)), rfl, rfl⟩
    simp (disch := first | (simp; done) | omega) [is_line_ok k (h l hl), show decide ((8 : Int) ≤ i) = false by simp; omega]) [some (.adr M.length), some (.d (.str t)), some (.d (.str u)), some (.d (.tup (ls.map Ln.d))), none, none] (M ++ [.ins 0 []]) ⟨none, none, rfl, rfl⟩
  rw [e]
  simp
  exact trim_same (by simp)
end G

namespace G
open PySem PySem.Spec PyProof.Rows L2 TL
@[simp] theorem dats_mapc {α : Type} {g : α → D} {xs : List α} : dats (xs.map (VD.d ∘ g)) = some (xs.map g) := by
  have := dats_map (ds := xs.map g)
  simpa using this
theorem make_ok {t u : List Nat} {ls : List Ln} (k : BkOk t u) (h : ∀ l ∈ ls, LnOk t u l) (hn : ls.length ≤ 8) (M : Mem) : makeV 0 3 p_Book___init__ (.d (.str t) :: .d (.str u) :: (ls.map Ln.d).map .d) M = .ok (.d (bookD t u ls)) (M ++ [.dead]) :=
  makeV_ok (ds := [.str t, .str u, .lst (ls.map Ln.d)]) (init_ok k h hn M) rfl
theorem header_len {t u : List Nat} (k : BkOk t u) : (t ++ 32 :: u).length ≤ 11 := by
  have h6 := k.t6
  have h4 := k.u4
  simp
  omega
theorem header_split {t u : List Nat} (k : BkOk t u) : splitS (t ++ 32 :: u) [32] = [t, u] := by
  have e := splitS_join (c := 32) (by decide) (ss := [t, u]) (by simp) (fun s hs hx => by
    simp at hs
    rcases hs with rfl | rfl
    · have := k.tge _ hx; omega
    · have := k.uge _ hx; omega)
  exact e
theorem bookT_split {t u : List Nat} {ls : List Ln} (k : BkOk t u) (h : ∀ l ∈ ls, LnS l) : splitS (bookT t u ls) [10] = (t ++ 32 :: u) :: ls.map lnT := by
  unfold bookT
  refine splitS_join (by decide) (by simp) fun s hs hx => ?_
  rcases List.mem_cons.mp hs with rfl | hs
  · rcases List.mem_append.mp hx with hx | hx
    · have := k.tge _ hx; omega
    · rcases List.mem_cons.mp hx with hx | hx
      · omega
      · have := k.uge _ hx; omega
  · obtain ⟨l, hl, rfl⟩ := List.mem_map.mp hs
    exact lnT_ge (h l hl) 10 hx rfl
theorem bookT_len {t u : List Nat} {ls : List Ln} (k : BkOk t u) (h : ∀ l ∈ ls, LnS l) : (bookT t u ls).length ≤ 12 + 41 * ls.length := by
  have hs : szs (ls.map lnT) ≤ 40 * ls.length := by
    have := szs_le (k := 40) (ss := ls.map lnT) (fun s hs => by
      obtain ⟨l, hl, rfl⟩ := List.mem_map.mp hs
      exact lnT_len (h l hl))
    simpa using this
  have := joinL_len (c := 10) ((t ++ 32 :: u) :: ls.map lnT)
  have := header_len k
  unfold bookT
  rw [szs] at *
  rw [List.length_cons, List.length_map] at *
  omega
noncomputable abbrev readB : Sx := s_if (e_asB (e_op f_gt (e_var 4) (e_c (.int 0)))) (s_seq (s_asg (e_call 1 m_line_of (a_cons (e_var 5) a_nil)) (g_name 6))
    (s_seq (s_if (e_orT (e_asB (e_op f_gt (e_var 4) (e_c (.int 8)))) (e_notT (e_truth (e_call 3 m_is_line (a_cons (e_var 6) (a_cons (e_op f_ix (e_var 2) (e_c (.int 0))) (a_cons (e_op f_ix (e_var 2) (e_c (.int 1))) a_nil))))))) s_fail s_skip)
    (s_expr (e_app (e_var 3) (e_var 6))))) s_skip
theorem read_loop {t u : List Nat} (k : BkOk t u) (x0 x1 : Option VD) (M : Mem) : ∀ (rest dn : List Ln) (x4 x5 x6 : Option VD), (∀ l ∈ rest, LnOk t u l) → dn.length + rest.length ≤ 8 → ∃ y4 y5 y6, forL (g_tup 2 (g_cons (g_name 4) (g_cons (g_name 5) g_nil))) readB (enumL (rest.map fun l => D.str (lnT l)) (dn.length + 1)) [x0, x1, some (.d (.lst [.str t, .str u])), some (.adr M.length), x4, x5, x6] (M ++ [.lst (dn.map Ln.d)]) = .nx [x0, x1, some (.d (.lst [.str t, .str u])), some (.adr M.length), y4, y5, y6] (M ++ [.lst ((dn ++ rest).map Ln.d)])
  | [], dn, x4, x5, x6, _, _ => ⟨x4, x5, x6, by simp [enumL]⟩
  | l :: rest, dn, x4, x5, x6, h, hl => by
    have hlim := lim_eq
    simp at hl
    have hl0 := h l (by simp)
    obtain ⟨y4, y5, y6, e⟩ := read_loop k x0 x1 M rest (dn ++ [l]) (some (.d (.int (dn.length + 1 : Nat)))) (some (.d (.str (lnT l)))) (some (.d (Ln.d l))) (fun z hz => h z (by simp [hz])) (by simp; omega)
    refine ⟨y4, y5, y6, ?_⟩
    rw [List.map_cons, enumL, forL_cons]
    simp at e
    simp (disch := first | (simp; done) | omega) [line_of_ok (hl0.s k), is_line_ok k hl0, show decide ((8 : Int) < dn.length + 1) = false by simp; omega, show decide ((0 : Int) < dn.length + 1) = true by first | (simp; done) | (simp; omega), ifL]
    exact e
theorem read_ok {t u : List Nat} {ls : List Ln} (k : BkOk t u) (h : ∀ l ∈ ls, LnOk t u l) (hn : ls.length ≤ 8) {M : Mem} (hM : Lst M) : m_Book_read [.d (.str (bookT t u ls))] M = .ok (.d (bookD t u ls)) M := by
  have hlim := lim_eq
  have h6 := k.t6
  have h4 := k.u4
  have hs : ∀ l ∈ ls, LnS l := fun l hl => (h l hl).s k
  have hb := bookT_len k hs
  have hh := header_len k
  obtain ⟨y4, y5, y6, e⟩ := read_loop k (some (.d (.str (bookT t u ls)))) (some (.d (.lst (D.str (t ++ 32 :: u) :: ls.map fun l => D.str (lnT l))))) M ls [] (some (.d (.int 0))) (some (.d (.str (t ++ 32 :: u)))) none h (by simpa using hn)
  simp at e
  unfold m_Book_read
  rw [fnM_eq]
  unfold b_Book_read
  simp (disch := first | (simp; done) | omega) [bookT_split k hs, header_split k, show (bookT t u ls).length + 2 ≤ lim by omega, show (t ++ 32 :: u).length + 2 ≤ lim by omega, is_kinds_s, is_comers_s, k.rt, k.ru, enumL, forL_cons, ifl, Function.comp_def]
  rw [e]
  simp
  have hmk := make_ok k h hn (M ++ [.lst (ls.map Ln.d)])
  simp at hmk
  rw [hmk]
  simp
  exact trimL hM
theorem text_ok {t u : List Nat} {ls : List Ln} (k : BkOk t u) (h : ∀ l ∈ ls, LnS l) (hn : ls.length ≤ 8) (M : Mem) : m_Book_text [.d (bookD t u ls)] M = .ok (.d (.str (bookT t u ls))) M := by
  have hlim := lim_eq
  have h6 := k.t6
  have h4 := k.u4
  have hs : szs (ls.map lnT) ≤ 40 * ls.length := by
    have := szs_le (k := 40) (ss := ls.map lnT) (fun s hs => by
      obtain ⟨l, hl, rfl⟩ := List.mem_map.mp hs
      exact lnT_len (h l hl))
    simpa using this
  unfold m_Book_text
  rw [fnM_eq]
  unfold b_Book_text bookT
  simp (disch := first | (simp; done) | omega) [bookD, ifl]
  rw [compL_mapA Ln.d (fun l => D.str (lnT l)) ls [] (fun l hl => by
    obtain ⟨a1, b1, c1, w1, -, -, -, -, -, -, -⟩ := h l hl
    unfold lnT
    by_cases e : l.w = []
    · simp (disch := first | (simp; done) | omega) [Ln.d, e, ifl, szs, cut3]
    · simp (disch := first | (simp; done) | omega) [Ln.d, e, ifl, szs, cut3, show l.w.isEmpty = false by cases q : l.w with | nil => exact absurd q e | cons a l => rfl]) (by simp; omega)]
  simp (disch := first | (simp; done) | omega) [ifl, szs]
theorem lines_ok {t u : List Nat} {ls : List Ln} (M : Mem) : m_Book_lines [.d (bookD t u ls)] M = .ok (.d (.lst (ls.map Ln.d))) M := by
  unfold m_Book_lines
  rw [fnM_eq]
  unfold b_Book_lines
  simp [bookD]
theorem len_ok {t u : List Nat} {ls : List Ln} (M : Mem) : m_Book___len__ [.d (bookD t u ls)] M = .ok (.d (.int ls.length)) M := by
  unfold m_Book___len__
  rw [fnM_eq]
  unfold b_Book___len__
  simp [bookD]
theorem pl_Ln {n : Nat} (l : Ln) : D.pl (n + 1) (Ln.d l) = true := by simp [Ln.d]
theorem plA_Ln {n : Nat} : ∀ ls : List Ln, D.plA (n + 1) (ls.map Ln.d) = true
  | [] => by simp
  | l :: ls => by simp [pl_Ln, plA_Ln ls]
/-- equal books -/
def bookE (t u : List Nat) (ls : List Ln) (t' u' : List Nat) (ls' : List Ln) : Bool := t == t' && (u == u' && D.eqvA (ls.map Ln.d) (ls'.map Ln.d))
theorem eq_ok {t u t' u' : List Nat} {ls ls' : List Ln} (M : Mem) : m_Book___eq__ [.d (bookD t u ls), .d (bookD t' u' ls')] M = .ok (.d (.bl (bookE t u ls t' u' ls'))) M := by
  unfold m_Book___eq__
  rw [fnM_eq]
  unfold b_Book___eq__ bookE
  have hl := lines_ok (t := t') (u := u') (ls := ls') M
  simp [bookD] at hl ⊢
  cases (t == t') with
  | false => simp
  | true =>
    simp
    cases (u == u') with
    | false => simp
    | true => simp [hl, plA_Ln]
theorem law_book_ok {t u : List Nat} {ls : List Ln} (k : BkOk t u) (h : ∀ l ∈ ls, LnOk t u l) (hn : ls.length ≤ 8) {M : Mem} (hM : Lst M) : m__law_book [.d (specD t u ls)] M = .ok (.d (bookD t u ls)) M := by
  unfold m__law_book
  rw [fnM_eq]
  unfold b__law_book
  simp [book_text_ok k (fun l hl => (h l hl).s k) hn, read_ok k h hn hM]
theorem eqv_spec {t u t' u' : List Nat} {ls ls' : List Ln} : D.eqv (specD t u ls) (specD t' u' ls') = bookE t u ls t' u' ls' := by
  simp [specD, bookE]
theorem pl_spec {t u : List Nat} {ls : List Ln} {n : Nat} : D.pl (n + 3) (specD t u ls) = true := by
  simp [specD, plA_Ln]
end G

namespace G
open PySem PySem.Spec PyProof.Rows L2 TL
/-! books and their specs, in expressions -/
@[simp] theorem ix_spec0 {t u ls M} : f_ix (.d (specD t u ls)) (.d (.int 0)) M = .ok (.d (.str t)) M := by simp [specD]
@[simp] theorem ix_spec1 {t u ls M} : f_ix (.d (specD t u ls)) (.d (.int 1)) M = .ok (.d (.str u)) M := by simp [specD]
@[simp] theorem ix_spec2 {t u ls M} : f_ix (.d (specD t u ls)) (.d (.int 2)) M = .ok (.d (.lst (ls.map Ln.d))) M := by simp [specD]
@[simp] theorem ix_Ln0 {l M} : f_ix (.d (Ln.d l)) (.d (.int 0)) M = .ok (.d (.str l.a)) M := by simp [Ln.d]
@[simp] theorem ix_Ln1 {l M} : f_ix (.d (Ln.d l)) (.d (.int 1)) M = .ok (.d (.str l.b)) M := by simp [Ln.d]
@[simp] theorem ix_Ln2 {l M} : f_ix (.d (Ln.d l)) (.d (.int 2)) M = .ok (.d (.str l.c)) M := by simp [Ln.d]
@[simp] theorem ix_Ln3 {l M} : f_ix (.d (Ln.d l)) (.d (.int 3)) M = .ok (.d (.str l.w)) M := by simp [Ln.d]
@[simp] theorem fld_book0 {t u ls M} : f_fld (tb 0 0) (.d (bookD t u ls)) M = .ok (.d (.str t)) M := by simp [bookD]
@[simp] theorem fld_book1 {t u ls M} : f_fld (tb 0 1) (.d (bookD t u ls)) M = .ok (.d (.str u)) M := by simp [bookD]
@[simp] theorem fld_book2 {t u ls M} : f_fld (tb 0 2) (.d (bookD t u ls)) M = .ok (.d (.lst (ls.map Ln.d))) M := by simp [bookD]
@[simp] theorem isC_book {t u ls M} : isC 0 M (.d (bookD t u ls)) = true := by simp [bookD]
@[simp] theorem eqTy_book {t u ls M} : eqTy 0 M (.d (bookD t u ls)) = true := by simp [bookD]
theorem bookE_self {t u : List Nat} {ls : List Ln} : bookE t u ls t u ls = true := by
  simp [bookE, eqv_selfA 1 (ls.map Ln.d) (plA_Ln ls)]
theorem Sz_Ln (l : Ln) : Sz (Ln.d l) := by
  have hlim := lim_eq
  refine .tup (by simp; omega) fun x hx => ?_
  simp at hx
  rcases hx with rfl | rfl | rfl | rfl <;> exact .str
theorem Sz_lns {ls : List Ln} (h : ls.length ≤ lim) : Sz (.lst (ls.map Ln.d)) :=
  .lst (by simpa using h) fun x hx => by
    obtain ⟨l, _, rfl⟩ := List.mem_map.mp hx
    exact Sz_Ln l
theorem same_lns {ls : List Ln} (h : ls.length ≤ lim) (M : Mem) : m__law_same 8 [.d (.lst (ls.map Ln.d)), .d (.lst (ls.map Ln.d))] M = .ok (.d (.bl true)) M :=
  same_ok 7 _ M (by simp [plA_Ln]) (by omega) (Sz_lns h)
end G

/-! what is raised and tried -/
namespace G
open PySem PySem.Spec PyProof.Rows L2 TL
def raK (c : Nat) (code : List Nat) (r : Res (List VD)) : Out := r.out (raiseV c code)
@[simp] theorem s_raise_eq {c code ms ρ M} : s_raise c code ms ρ M = raK c code (ms ρ M) := nrfl rfl
@[simp] theorem raK_ok {c code z M} : raK c code (.ok [.d z] M) = .exc c [.str code, z] M := nrfl rfl
@[simp] theorem seqK_exc {c fs M b} : seqK (.exc c fs M) b = .exc c fs M := nrfl rfl
@[simp] theorem retK_exc {c fs M} : retK (.exc c fs M) = .exc c fs M := nrfl rfl
@[simp] theorem exprK_exc {c fs M ρ} : exprK (.exc c fs M) ρ = .exc c fs M := nrfl rfl
@[simp] theorem asgK_exc {c fs M mg ρ} : asgK (.exc c fs M) mg ρ = .exc c fs M := nrfl rfl
@[simp] theorem consK_exc {c fs M t ρ} : consK (.exc c fs M) t ρ = .exc c fs M := nrfl rfl
@[simp] theorem consK2_exc {c fs M v} : consK2 v (.exc c fs M) = .exc c fs M := nrfl rfl
@[simp] theorem callK_exc {n m c fs M} : callK n m (.exc c fs M) = .exc c fs M := nrfl rfl
@[simp] theorem callPK_exc {m c fs M} : callPK m (.exc c fs M) = .exc c fs M := nrfl rfl
@[simp] theorem methK1_exc {m x c fs M} : methK1 true m x (.exc c fs M) = .exc c fs M := nrfl rfl
@[simp] theorem methK_exc {c' m c fs M ms ρ} : methK c' m (.exc c fs M) ms ρ = .exc c fs M := nrfl rfl
@[simp] theorem tupK_exc {c fs M} : tupK (.exc c fs M) = .exc c fs M := nrfl rfl
@[simp] theorem lstK_exc {c fs M} : lstK (.exc c fs M) = .exc c fs M := nrfl rfl
@[simp] theorem flK2_exc {c fs M mg body xs} : flK2 (.exc c fs M) mg body xs = .exc c fs M := nrfl rfl
def fnXK (n : Nat) (o : Out) : Res VD := trimX n (match o with
  | .nx _ M1 => .ok (.d .non) M1
  | .ret v M1 => .ok v M1
  | .exc c fs M1 => .exc c fs M1
  | _ => .fail)
theorem fnX_eq {n body ds M} : fnX n body ds M = fnXK M.length (body (ds.map some ++ List.replicate (n - ds.length) none) M) := nrfl rfl
@[simp] theorem fnXK_ret {n v M} : fnXK n (.ret v M) = trim n (.ok v M) := nrfl rfl
@[simp] theorem fnXK_nx {n ρ M} : fnXK n (.nx ρ M) = trim n (.ok (.d .non) M) := nrfl rfl
@[simp] theorem fnXK_exc {c fs M} : fnXK M.length (.exc c fs M) = .exc c fs M := by
  show (if (M.take M.length).all (moLt M.length) then Res.exc c fs (M.take M.length) else Res.exc c fs M) = _
  rw [List.take_of_length_le (Nat.le_refl _)]
  split <;> rfl
@[simp] theorem e_lam_eq {k ρ M} : e_lam k ρ M = .ok (.d (.clo k)) M := nrfl rfl
def lamcK (m : Env → List VD → Mem → Res VD) (r : Res (List VD)) (ρ : Env) : Res VD := r.bind fun vs M1 => if vs.length = 1 then m (dOnly ρ) vs M1 else .fail
@[simp] theorem e_lamcall_eq {m ms ρ M} : e_lamcall m ms ρ M = lamcK m (ms ρ M) ρ := nrfl rfl
@[simp] theorem lamcK_ok {m v ρ M} : lamcK m (.ok [v] M) ρ = m (dOnly ρ) [v] M := nrfl rfl
@[simp] theorem f_mulS_s {s j M} : f_mulS (.d (.str s)) (.d (.int j)) M = gi (0 ≤ j ∧ j ≤ 1000 ∧ s.length ≤ 1000) (.ok (.d (.str (List.replicate j.toNat s).flatten)) M) .fail := nrfl rfl
def m0K (f : VD → Mem → Res VD) (r : Res VD) : Res VD := r.bind f
@[simp] theorem e_m0_eq {f m ρ M} : e_m0 f m ρ M = m0K f (m ρ M) := nrfl rfl
@[simp] theorem m0K_ok {f v M} : m0K f (.ok v M) = f v M := nrfl rfl
@[simp] theorem f_low_s {s M} : f_low (.d (.str s)) M = if s.all (· < 128) ∧ s.length ≤ 5000000 then .ok (.d (.str (s.map lowC))) M else .fail := nrfl rfl
@[simp] theorem f_upp_s {s M} : f_upp (.d (.str s)) M = if s.all (· < 128) ∧ s.length ≤ 5000000 then .ok (.d (.str (s.map upC))) M else .fail := nrfl rfl
def dO : Option VD → Option VD
  | some (.d x) => some (.d x)
  | _ => none
@[simp] theorem dOnly_nil : dOnly [] = [] := nrfl rfl
@[simp] theorem dOnly_cons {x : Option VD} {ρ : Env} : dOnly (x :: ρ) = dO x :: dOnly ρ := nrfl rfl
@[simp] theorem dO_n : dO none = none := nrfl rfl
@[simp] theorem dO_d {d : D} : dO (some (.d d)) = some (.d d) := nrfl rfl
@[simp] theorem dO_a {j : Nat} : dO (some (.adr j)) = none := nrfl rfl
/-! the field that is told of an error -/
def atL : List (List Nat) := [[73, 110, 118, 97, 108, 105, 100, 76, 105, 110, 101], [73, 110, 118, 97, 108, 105, 100, 83, 116, 101, 112], [73, 110, 118, 97, 108, 105, 100, 84, 97, 98, 108, 101], [73, 110, 118, 97, 108, 105, 100, 66, 97, 100], [78, 111, 116, 66, 111, 114, 110], [78, 111, 116, 70, 114, 101, 101], [85, 110, 107, 110, 111, 119, 110, 76, 101, 116, 116, 101, 114]]
def mostL : List (List Nat) := [[84, 111, 111, 77, 97, 110, 121], [70, 117, 108, 108]]
def lineL : List (List Nat) := [[73, 110, 118, 97, 108, 105, 100, 84, 101, 120, 116], [73, 110, 118, 97, 108, 105, 100, 80, 97, 103, 101]]
def stateC : List Nat := [85, 110, 107, 110, 111, 119, 110, 83, 116, 97, 116, 101]
def noneL : List (List Nat) := [[73, 110, 118, 97, 108, 105, 100, 80, 97, 112, 101, 114], [79, 116, 104, 101, 114, 75, 105, 110, 100, 115], [79, 116, 104, 101, 114, 67, 111, 109, 101, 114, 115], [78, 111, 116, 104, 105, 110, 103, 76, 101, 102, 116]]
theorem any_strs (L : List (List Nat)) (s : List Nat) : ((L.map D.str).any fun z => D.eqv z (.str s)) = L.any (· == s) := by
  rw [List.any_map]
  rfl
section
variable {ns : List Str} {fs : List D} {M : Mem} {code : List Nat} {z : D}
theorem xfv {n : Str} {d : D} (h : (ns.zip fs).lookup n = some d) : e_xf 0 ns fs n (e_var 0) [some (.d (.pv 0))] M = .ok (.d d) M := by
  rw [xf_at rfl, h]
  rfl
theorem in_test {m : Mx VD} {ρ : Env} {L : List (List Nat)} {ms : Mx (List VD)} (h : m ρ M = .ok (.d (.str code)) M) (hm : e_lst ms ρ M = .ok (.d (.lst (L.map .str))) M) : e_asB (e_op f_in m (e_lst ms)) ρ M = .ok (L.any (· == code)) M := by
  have hp : D.plA 19 (L.map D.str) = true := by
    clear hm
    induction L with
    | nil => rfl
    | cons a L ih => simp [ih]
  rw [e_asB_eq, e_op_eq, h, opK_ok, hm, opK2_ok, f_in_l, any_strs]
  simp [hp]
theorem lst_of {ms : Mx (List VD)} {ρ : Env} {ds : List D} (h : ms ρ M = .ok (ds.map .d) M) (hl : ds.length ≤ lim) : e_lst ms ρ M = .ok (.d (.lst ds)) M := by
  rw [e_lst_eq, h, lstK_ok]
  have : dats (ds.map VD.d) = some ds := by
    clear h hl
    induction ds with
    | nil => rfl
    | cons a r ih => simp [ih]
  rw [this]
  simp [hl]
theorem field_eq (hc : (ns.zip fs).lookup ("code" : Str) = some (D.str code)) : b_law_field 0 ns fs [some (.d (.pv 0))] M =
    if atL.any (· == code) then (e_xf 0 ns fs "at" (e_var 0) [some (.d (.pv 0))] M).out fun x M2 => .ret x M2
    else if mostL.any (· == code) then (e_xf 0 ns fs "most" (e_var 0) [some (.d (.pv 0))] M).out fun x M2 => .ret x M2
    else if lineL.any (· == code) then (e_xf 0 ns fs "line" (e_var 0) [some (.d (.pv 0))] M).out fun x M2 => .ret x M2
    else if stateC == code then (e_xf 0 ns fs "state" (e_var 0) [some (.d (.pv 0))] M).out fun x M2 => .ret x M2
    else if noneL.any (· == code) then .ret (.d .non) M
    else (e_xf 0 ns fs "given" (e_var 0) [some (.d (.pv 0))] M).out fun x M2 => .ret x M2 := by
  have hlim := lim_eq
  have h0 : ∀ M, e_xf 0 ns fs "code" (e_var 0) [some (.d (.pv 0))] M = .ok (.d (.str code)) M := fun M => xfv hc
  unfold b_law_field
  rw [seq_if, in_test (L := atL) (h0 M) (lst_of rfl (by simp [atL]; omega))]
  cases atL.any (· == code) with
  | true => rfl
  | false =>
    rw [if_neg Bool.false_ne_true]
    dsimp only
    rw [seq_if, in_test (L := mostL) (h0 M) (lst_of rfl (by simp [mostL]; omega))]
    cases mostL.any (· == code) with
    | true => rfl
    | false =>
      rw [if_neg Bool.false_ne_true]
      dsimp only
      rw [seq_if, in_test (L := lineL) (h0 M) (lst_of rfl (by simp [lineL]; omega))]
      cases lineL.any (· == code) with
      | true => rfl
      | false =>
        rw [if_neg Bool.false_ne_true]
        dsimp only
        have he : e_asB (e_op f_eq (e_xf 0 ns fs "code" (e_var 0)) (e_c (.str stateC))) [some (.d (.pv 0))] M = .ok (stateC == code) M := by
          rw [e_asB_eq, e_op_eq, h0 M, opK_ok, e_c_eq, opK2_ok, f_eq_d]
          have : D.eqv (.str code) (.str stateC) = (stateC == code) := by
            show (code == stateC) = _
            generalize stateC = q
            rw [Bool.eq_iff_iff, beq_iff_eq, beq_iff_eq]
            exact eq_comm
          rw [this, pl_str, pl_str]
          rfl
        rw [seq_if]
        rw [show (e_c (.str [85, 110, 107, 110, 111, 119, 110, 83, 116, 97, 116, 101]) : Mx VD) = e_c (.str stateC) from rfl, he]
        cases stateC == code with
        | true => rfl
        | false =>
          rw [if_neg Bool.false_ne_true]
          dsimp only
          rw [s_ret_eq, e_if_eq, in_test (L := noneL) (h0 M) (lst_of rfl (by simp [noneL]; omega))]
          cases noneL.any (· == code) with
          | true => rfl
          | false => rfl
end
/-- where the field stands -/
def told (code : List Nat) : Str := if atL.any (· == code) then "at" else if mostL.any (· == code) then "most" else if lineL.any (· == code) then "line" else if stateC == code then "state" else if noneL.any (· == code) then "" else "given"
theorem hand_ok {nm : Nat → List Str} {c : Nat} {code : List Nat} {fl : Str} {z : D} {M : Mem} (hn : nm c = (["code", fl] : List Str)) (hf : told code = fl) (h0 : noneL.any (· == code) = false) (hc : fl ≠ "code") : handV nm c [.str code, z] M = .ok (.d (.tup [.str code, z])) M := by
  have hlim := lim_eq
  have l1 : ((["code", fl] : List Str).zip [D.str code, z]).lookup ("code" : Str) = some (.str code) := rfl
  have l2 : ((["code", fl] : List Str).zip [D.str code, z]).lookup fl = some z := by
    have : (fl == ("code" : Str)) = false := by simpa using hc
    simp [List.lookup, this]
  have fin : ((Res.ok (.d z) M).out fun x M2 => Out.ret x M2) = .ret (.d z) M := rfl
  have fv : b_law_field 0 ["code", fl] [.str code, z] [some (.d (.pv 0))] M = .ret (.d z) M := by
    rw [field_eq l1]
    unfold told at hf
    split
    · rename_i h
      rw [if_pos h] at hf
      rw [hf, xfv l2, fin]
    · rename_i h
      rw [if_neg h] at hf
      split
      · rename_i h
        rw [if_pos h] at hf
        rw [hf, xfv l2, fin]
      · rename_i h
        rw [if_neg h] at hf
        split
        · rename_i h
          rw [if_pos h] at hf
          rw [hf, xfv l2, fin]
        · rename_i h
          rw [if_neg h] at hf
          split
          · rename_i h
            rw [if_pos h] at hf
            rw [hf, xfv l2, fin]
          · rename_i h
            rw [if_neg h] at hf
            rw [h0, if_neg Bool.false_ne_true] at hf ⊢
            rw [hf, xfv l2, fin]
  have ff : fnM 1 (b_law_field 0 ["code", fl] [.str code, z]) [.d (.pv 0)] M = .ok (.d z) M := by
    rw [fnM_eq]
    show fnK M.length (b_law_field 0 ["code", fl] [.str code, z] [some (.d (.pv 0))] M) = _
    rw [fv, fnK_ret, trim_same']
  have x1 : e_xf 0 ["code", fl] [.str code, z] "code" (e_var 1) [none, some (.d (.pv 0))] M = .ok (.d (.str code)) M := by
    rw [xf_at rfl, l1]
    rfl
  have x2 : e_field 0 (b_law_field 0 ["code", fl] [.str code, z]) (a_cons (e_var 1) a_nil) [none, some (.d (.pv 0))] M = .ok (.d z) M := by
    show fieldV 0 _ [.d (.pv 0)] M = _
    unfold fieldV
    dsimp only
    rw [if_pos rfl, ff]
  unfold handV e_hand
  rw [hn, e_tup_eq, a_cons_eq, x1, consK_ok, a_cons_eq, x2, consK_ok, a_nil_eq]
  simp
  omega
/-! a letter that is not there -/
theorem len_sub : ∀ {l m : List Nat}, l.Nodup → (∀ x ∈ l, x ∈ m) → l.length ≤ m.length
  | [], _, _, _ => Nat.zero_le _
  | a :: l, m, h, hs => by
    rw [List.nodup_cons] at h
    have ha := hs a List.mem_cons_self
    have := len_sub (l := l) (m := m.erase a) h.2 fun x hx => (List.mem_erase_of_ne fun e => h.1 (by rw [← e]; exact hx)).mpr (hs x (List.mem_cons_of_mem _ hx))
    rw [List.length_erase_of_mem ha] at this
    have := List.length_pos_of_mem ha
    simp
    omega
theorem gone_ok {L t : List Nat} {turn : D → Mem → Res (Option D)} {M : Mem} (hL : L.Nodup) (h : t.length < L.length) (hl : L.length ≤ 1000) (ht : ∀ c ∈ L, turn (.str [c]) M = .ok (if !decide (c ∈ t) then some (.str [c]) else none) M) : ∃ o rest, compL turn (chars L) M [] = .ok (.str [o] :: chars rest) M ∧ o ∈ L ∧ o ∉ t ∧ rest.length ≤ L.length := by
  have hlim := lim_eq
  obtain ⟨o, rest, hf⟩ : ∃ o rest, (L.filter fun c => !decide (c ∈ t)) = o :: rest := by
    cases q : L.filter fun c => !decide (c ∈ t) with
    | cons o rest => exact ⟨o, rest, rfl⟩
    | nil =>
      rw [List.filter_eq_nil_iff] at q
      have := len_sub (l := L) (m := t) hL fun x hx => by simpa using q x hx
      omega
  have ho : o ∈ L.filter fun c => !decide (c ∈ t) := by rw [hf]; simp
  have hle := List.length_filter_le (fun c => !decide (c ∈ t)) L
  rw [hf] at hle
  rw [List.mem_filter] at ho
  refine ⟨o, rest, ?_, ho.1, by simpa using ho.2, by simp at hle; omega⟩
  rw [chars, compL_filterA (fun c => !decide (c ∈ t)) (fun c => D.str [c]) (fun c => D.str [c]) L [] ht (by simp; omega), hf]
  simp [chars]
/-! calls that are tried -/
section
variable {lm : Nat → Option (Mx VD)} {ρ : Env} {nm : Nat → List Str} {isE : Nat → Bool} {k c : Nat} {m : Mx VD} {M : Mem} {fs : List D} {d : D}
theorem act_eq {x : Option VD} (hk : lm k = some m) : e_act lm ρ 0 [some (.d (.clo k)), x] M = m ρ M := by
  show actV lm ρ (.d (.clo k)) M = _
  unfold actV
  dsimp only
  rw [hk]
theorem try_ok (hk : lm k = some m) (h : m ρ M = .ok (.d d) M) : m_law_try lm ρ nm isE [.d (.clo k)] M = .ok (.d (.tup [.str [], d])) M := by
  have hlim := lim_eq
  unfold m_law_try
  rw [fnM_eq]
  show fnK M.length (s_try _ _ _ [some (.d (.clo k)), none] M) = _
  have : e_tup (a_cons (e_c (.str [])) (a_cons (e_act lm ρ 0) a_nil)) [some (.d (.clo k)), none] M = .ok (.d (.tup [.str [], d])) M := by
    rw [e_tup_eq, a_cons_eq, e_c_eq, consK_ok, a_cons_eq, act_eq hk, h, consK_ok, a_nil_eq]
    simp
    omega
  unfold s_try
  rw [this]
  simp
theorem try_exc (hk : lm k = some m) (h : m ρ M = .exc c fs M) (hE : isE c = true) (hv : handV nm c fs M = .ok (.d d) M) : m_law_try lm ρ nm isE [.d (.clo k)] M = .ok (.d d) M := by
  unfold m_law_try
  rw [fnM_eq]
  show fnK M.length (s_try _ _ _ [some (.d (.clo k)), none] M) = _
  have : e_tup (a_cons (e_c (.str [])) (a_cons (e_act lm ρ 0) a_nil)) [some (.d (.clo k)), none] M = .exc c fs M := by
    rw [e_tup_eq, a_cons_eq, e_c_eq, consK_ok, a_cons_eq, act_eq hk, h, consK_exc, consK2_exc, tupK_exc]
  unfold s_try
  rw [this]
  dsimp only
  rw [hE, if_pos rfl, hv]
  show fnK M.length (.ret (.d d) M) = _
  rw [fnK_ret, trim_same']
/-- an error of the text -/
theorem try_err {code : List Nat} {fl : Str} {z : D} (hk : lm k = some m) (h : m ρ M = .exc c [.str code, z] M) (hE : isE c = true) (hn : nm c = (["code", fl] : List Str)) (hf : told code = fl) (h0 : noneL.any (· == code) = false) (hc : fl ≠ "code") : m_law_try lm ρ nm isE [.d (.clo k)] M = .ok (.d (.tup [.str code, z])) M :=
  try_exc hk h hE (hand_ok hn hf h0 hc)
theorem tries_ok {ks : List (Nat × D)} (h : ∀ p ∈ ks, m_law_try lm ρ nm isE [.d (.clo p.1)] M = .ok (.d p.2) M) (hl : ks.length ≤ 1000) : m_law_tries lm ρ nm isE [.d (.lst (ks.map fun p => .clo p.1))] M = .ok (.d (.lst (ks.map (·.2)))) M := by
  have hlim := lim_eq
  unfold m_law_tries
  rw [fnM_eq]
  simp
  rw [compL_mapA (fun p : Nat × D => D.clo p.1) (fun p => p.2) ks [] (fun p hp => by simp [h p hp]) (by simp; omega)]
  simp
end
theorem gone_ex {L t : List Nat} (hL : L.Nodup) (h : t.length < L.length) : ∃ o rest, (L.filter fun c => !decide (c ∈ t)) = o :: rest ∧ o ∈ L ∧ o ∉ t := by
  obtain ⟨o, rest, hf⟩ : ∃ o rest, (L.filter fun c => !decide (c ∈ t)) = o :: rest := by
    cases q : L.filter fun c => !decide (c ∈ t) with
    | cons o rest => exact ⟨o, rest, rfl⟩
    | nil =>
      rw [List.filter_eq_nil_iff] at q
      have := len_sub (l := L) (m := t) hL fun x hx => by simpa using q x hx
      omega
  have ho : o ∈ L.filter fun c => !decide (c ∈ t) := by rw [hf]; simp
  rw [List.mem_filter] at ho
  exact ⟨o, rest, hf, ho.1, by simpa using ho.2⟩
theorem gone_run {L t : List Nat} {turn : D → Mem → Res (Option D)} {M : Mem} {o : Nat} {rest : List Nat} (hl : L.length ≤ 1000) (hf : (L.filter fun c => !decide (c ∈ t)) = o :: rest) (ht : ∀ c ∈ L, turn (.str [c]) M = .ok (if !decide (c ∈ t) then some (.str [c]) else none) M) : compL turn (chars L) M [] = .ok (.str [o] :: chars rest) M := by
  have hlim := lim_eq
  rw [chars, compL_filterA (fun c => !decide (c ∈ t)) (fun c => D.str [c]) (fun c => D.str [c]) L [] ht (by simp; omega), hf]
  simp [chars]
theorem head_ex {t : List Nat} (h : 1 ≤ t.length) : ∃ a, atI t 0 = some a ∧ a ∈ t := by
  cases t with
  | nil => simp at h
  | cons a r => exact ⟨a, by simp, by simp⟩
/-- an error raised where things were made -/
theorem try_errM {lm : Nat → Option (Mx VD)} {ρ : Env} {nm : Nat → List Str} {isE : Nat → Bool} {k c : Nat} {m : Mx VD} {M l : Mem} {code : List Nat} {fl : Str} {z : D} (hM : Lst M) (hk : lm k = some m) (h : m ρ M = .exc c [.str code, z] (M ++ l)) (hE : isE c = true) (hn : nm c = (["code", fl] : List Str)) (hf : told code = fl) (h0 : noneL.any (· == code) = false) (hc : fl ≠ "code") : m_law_try lm ρ nm isE [.d (.clo k)] M = .ok (.d (.tup [.str code, z])) M := by
  unfold m_law_try
  rw [fnM_eq]
  show fnK M.length (s_try _ _ _ [some (.d (.clo k)), none] M) = _
  have : e_tup (a_cons (e_c (.str [])) (a_cons (e_act lm ρ 0) a_nil)) [some (.d (.clo k)), none] M = .exc c [.str code, z] (M ++ l) := by
    rw [e_tup_eq, a_cons_eq, e_c_eq, consK_ok, a_cons_eq, act_eq hk, h, consK_exc, consK2_exc, tupK_exc]
  unfold s_try
  rw [this]
  dsimp only
  rw [hE, if_pos rfl, hand_ok hn hf h0 hc]
  show fnK M.length (.ret (.d (.tup [.str code, z])) (M ++ l)) = _
  rw [fnK_ret, trimL hM]
theorem is_row_long {s t : List Nat} (h : 16 < s.length) (h2 : s.length ≤ lim) (M : Mem) : m_is_row [.d (.str s), .d (.str t)] M = .ok (.d (.bl false)) M := by
  rw [is_row_s s t M h2, show decide ((s.length : Int) ≤ 16) = false by simp; omega, Bool.and_false]
theorem is_row_out {s t : List Nat} {c : Nat} (h : c ∈ s) (hc : c ∉ t) (h2 : s.length ≤ lim) (M : Mem) : m_is_row [.d (.str s), .d (.str t)] M = .ok (.d (.bl false)) M := by
  have : (s.all fun c => decide (c ∈ t)) = false := by
    rw [List.all_eq_false]
    exact ⟨c, h, by simpa using hc⟩
  rw [is_row_s s t M h2, this, Bool.false_and]
theorem tw_sz {s : List Nat} {d : D} (h : Sz d) : Sz (.tup [.str s, d]) := by
  have hlim := lim_eq
  refine .tup (by simp; omega) fun x hx => ?_
  simp at hx
  rcases hx with rfl | rfl
  · exact .str
  · exact h
theorem sz_one {d : D} (h : Sz d) : Sz (.lst [d]) := by
  have hlim := lim_eq
  exact .lst (by simp; omega) (by simpa using h)
theorem sz_onet {d : D} (h : Sz d) : Sz (.tup [d]) := by
  have hlim := lim_eq
  exact .tup (by simp; omega) (by simpa using h)
theorem is_one_n {d : D} (hd : NoS d) (u : List Nat) (M : Mem) : m_is_one [.d d, .d (.str u)] M = .ok (.d (.bl false)) M := by
  unfold m_is_one
  rw [fnM_eq]
  unfold b_is_one
  cases hd <;> simp
theorem is_one_l {s : List Nat} (h : s.length ≤ lim) (h1 : s.length ≠ 1) (u : List Nat) (M : Mem) : m_is_one [.d (.str s), .d (.str u)] M = .ok (.d (.bl false)) M := by
  have z : ((s.length : Int) == 1) = false := by simpa using fun e => h1 (by omega)
  unfold m_is_one
  rw [fnM_eq]
  unfold b_is_one
  simp [h, z]
theorem last_ex {t : List Nat} (h : 1 ≤ t.length) : ∃ a, atI t (-1) = some a ∧ a ∈ t := by
  refine ⟨t[t.length - 1], ?_, List.getElem_mem _⟩
  unfold L2.atI ixN
  rw [if_neg (by omega), if_pos (by omega)]
  rw [show (-1 + (t.length : Int)).toNat = t.length - 1 by omega]
  simp
end G

/-! first answers to questions; what is kept -/
namespace G
section
variable {α β : Type} (p : β → α → Bool)
/-- the things that are the first answer to one of the questions -/
def keepQ : List β → List α → List α
  | _, [] => []
  | Q, l :: r => if Q.any fun q => p q l then l :: keepQ (Q.filter fun q => !p q l) r else keepQ Q r
theorem keepQ_find : ∀ (ls : List α) (Q : List β) (q : β), q ∈ Q → (keepQ p Q ls).find? (p q) = ls.find? (p q)
  | [], _, _, _ => rfl
  | l :: r, Q, q, hq => by
    unfold keepQ
    cases e : p q l with
    | true =>
      have : (Q.any fun q => p q l) = true := List.any_eq_true.mpr ⟨q, hq, e⟩
      rw [this, if_pos rfl, List.find?_cons, List.find?_cons, e]
    | false =>
      split
      · rw [List.find?_cons, List.find?_cons, e]
        exact keepQ_find r _ q (List.mem_filter.mpr ⟨hq, by simp [e]⟩)
      · rw [List.find?_cons, e]
        exact keepQ_find r Q q hq
theorem keepQ_used : ∀ (ls : List α) (Q : List β) (i : Nat), i < (keepQ p Q ls).length → ∃ q ∈ Q, (keepQ p Q ls).findIdx? (p q) = some i
  | [], _, i, h => by simp [keepQ] at h
  | l :: r, Q, i, h => by
    unfold keepQ at h ⊢
    split at h
    · rename_i hc
      rw [if_pos hc]
      cases i with
      | zero =>
        obtain ⟨q, hq, e⟩ := List.any_eq_true.mp hc
        exact ⟨q, hq, by simp [List.findIdx?_cons, e]⟩
      | succ j =>
        obtain ⟨q, hq, e⟩ := keepQ_used r (Q.filter fun q => !p q l) j (by simpa using h)
        obtain ⟨hq1, hq2⟩ := List.mem_filter.mp hq
        have : p q l = false := by simpa using hq2
        exact ⟨q, hq1, by simp [List.findIdx?_cons, this, e]⟩
    · rename_i hc
      rw [if_neg hc]
      exact keepQ_used r Q i h
theorem keepQ_sub : ∀ (ls : List α) (Q : List β), (keepQ p Q ls).Sublist ls
  | [], _ => by simp [keepQ]
  | l :: r, Q => by
    unfold keepQ
    split
    · exact (keepQ_sub r _).cons₂ _
    · exact (keepQ_sub r _).cons _
/-- i is the first answer to one of the questions -/
def usedQ (Q : List β) (ls : List α) (i : Nat) : Bool := Q.any fun q => ls.findIdx? (p q) == some i
theorem usedQ_0 {Q : List β} {l : α} {r : List α} : usedQ p Q (l :: r) 0 = Q.any fun q => p q l := by
  unfold usedQ
  congr 1
  funext q
  cases e : p q l with
  | true => simp [List.findIdx?_cons, e]
  | false =>
    simp [List.findIdx?_cons, e]
theorem usedQ_s {Q : List β} {l : α} {r : List α} {i : Nat} : usedQ p Q (l :: r) (i + 1) = usedQ p (Q.filter fun q => !p q l) r i := by
  unfold usedQ
  rw [List.any_filter]
  congr 1
  funext q
  cases e : p q l with
  | true => simp [List.findIdx?_cons, e]
  | false =>
    simp [List.findIdx?_cons, e]
    cases r.findIdx? (p q) <;> simp
theorem filter_none {Q : List β} {l : α} (h : (Q.any fun q => p q l) = false) : (Q.filter fun q => !p q l) = Q := by
  rw [List.filter_eq_self]
  intro q hq
  have := List.any_eq_false.mp h q hq
  simpa using this
/-- the things at used places -/
def pick (f : Nat → Bool) : Nat → List α → List α
  | _, [] => []
  | i, l :: r => if f i then l :: pick f (i + 1) r else pick f (i + 1) r
theorem pick_congr {f g : Nat → Bool} : ∀ (ls : List α) (i j : Nat), (∀ k, f (i + k) = g (j + k)) → pick f i ls = pick g j ls
  | [], _, _, _ => rfl
  | l :: r, i, j, h => by
    unfold pick
    have h0 := h 0
    simp only [Nat.add_zero] at h0
    rw [h0, pick_congr r (i + 1) (j + 1) fun k => by
      have := h (k + 1)
      rw [show i + 1 + k = i + (k + 1) by omega, show j + 1 + k = j + (k + 1) by omega]
      exact this]
theorem pick_keep : ∀ (ls : List α) (Q : List β), pick (usedQ p Q ls) 0 ls = keepQ p Q ls
  | [], _ => rfl
  | l :: r, Q => by
    unfold pick keepQ
    rw [usedQ_0]
    have e : pick (usedQ p Q (l :: r)) (0 + 1) r = keepQ p (Q.filter fun q => !p q l) r := by
      rw [← pick_keep r (Q.filter fun q => !p q l)]
      refine pick_congr r _ _ fun k => ?_
      rw [show 0 + 1 + k = k + 1 by omega, usedQ_s, show 0 + k = k by omega]
    rw [e]
    split
    · rfl
    · rename_i h
      rw [filter_none p (by simpa using h)]
theorem findIdx_find {f : α → Bool} : ∀ (ls : List α), ls.find? f = match ls.findIdx? f with
    | some i => ls[i]?
    | none => none
  | [] => rfl
  | l :: r => by
    cases e : f l with
    | true => simp [List.findIdx?_cons, List.find?_cons, e]
    | false =>
      rw [List.find?_cons, e]
      rw [findIdx_find r]
      simp [List.findIdx?_cons, e]
      cases r.findIdx? f <;> simp
end
end G

/-! gaps, lines that take, words -/
namespace G
open PySem PySem.Spec PyProof.Rows L2 TL
def nowO (M : Mem) (o : Option VD) : Option VD := match o with
  | some v => (nowV M v).map .d
  | none => none
@[simp low] theorem nowE_o {M : Mem} {o : Option VD} {ρ : Env} : nowE M (o :: ρ) = nowO M o :: nowE M ρ := nrfl rfl
def comp2K (fin : List D → Mem → Res VD) (r : Res (List D)) (vs vs1 : List Nat) (mg : VD → Env → Option Env) (mt : Mx Bool) (mi1 : Mx (List D)) (mg1 : VD → Env → Option Env) (mt1 : Mx Bool) (me : Mx VD) (ρ : Env) : Res VD := r.bind fun items M1 => (comp2 vs vs1 mg mt mi1 mg1 mt1 me ρ items M1 []).bind fin
def comp2K2 (fin : List D → Mem → Res VD) (r : Res (List D)) : Res VD := r.bind fin
@[simp] theorem e_comp2_eq {fin vs vs1 mi mg mt mi1 mg1 mt1 me ρ M} : e_comp2 fin vs vs1 mi mg mt mi1 mg1 mt1 me ρ M = comp2K fin (mi ρ M) vs vs1 mg mt mi1 mg1 mt1 me ρ := nrfl rfl
@[simp] theorem comp2K_ok {fin items M vs vs1 mg mt mi1 mg1 mt1 me ρ} : comp2K fin (.ok items M) vs vs1 mg mt mi1 mg1 mt1 me ρ = comp2K2 fin (comp2 vs vs1 mg mt mi1 mg1 mt1 me ρ items M []) := nrfl rfl
@[simp] theorem comp2K2_ok {fin ds M} : comp2K2 fin (.ok ds M) = fin ds M := nrfl rfl
@[simp] theorem finD_eq {ds M} : finD ds M = .ok (.d (.lst ds)) M := nrfl rfl
theorem comp2_map {α β : Type} {vs vs1 mg mt mi1 mg1 mt1 me} {ρ : Env} {M : Mem} (f : α → D) (ys : α → List β) (f1 : β → D) (h : α → β → D) : ∀ (xs : List α) (acc : List D), (∀ x ∈ xs, ∃ ρ2, mg (.d (f x)) (wipeE ρ vs) = some ρ2 ∧ mt ρ2 M = .ok true M ∧ mi1 ρ2 M = .ok ((ys x).map f1) M ∧ ∀ y ∈ ys x, cTurn vs1 mg1 mt1 me ρ2 (f1 y) M = .ok (some (h x y)) M) →
    acc.length + (xs.flatMap fun x => (ys x).map (h x)).length ≤ lim → comp2 vs vs1 mg mt mi1 mg1 mt1 me ρ (xs.map f) M acc = .ok (acc ++ xs.flatMap fun x => (ys x).map (h x)) M
  | [], acc, _, _ => by simp [comp2]
  | x :: xs, acc, hx, hl => by
    obtain ⟨ρ2, e1, e2, e3, e4⟩ := hx x List.mem_cons_self
    rw [List.flatMap_cons, List.length_append, List.length_map] at hl
    rw [List.map_cons, comp2, e1]
    dsimp only
    rw [e2]
    dsimp only
    rw [e3]
    dsimp only
    rw [compL_mapA f1 (h x) (ys x) acc e4 (by omega)]
    dsimp only
    rw [comp2_map f ys f1 h xs _ (fun z hz => hx z (List.mem_cons_of_mem _ hz)) (by rw [List.length_append, List.length_map]; omega)]
    simp
/-- a loop over numbered lines that ends at the first that fits -/
theorem forL_first {mg : VD → Env → Option Env} {body : Sx} {M : Mem} (f : Ln → Bool) (I : Env → Prop) : ∀ (ls : List Ln) (k : Nat) (ρ : Env), I ρ → (∀ l ∈ ls, ∀ (i : Nat) ρ, I ρ → ∃ ρ1, mg (.d (.tup [.int i, Ln.d l])) ρ = some ρ1 ∧ if f l then body ρ1 M = .ret (.d (.int i)) M else ∃ ρ2, body ρ1 M = .nx ρ2 M ∧ I ρ2) →
    match ls.findIdx? f with
    | some j => forL mg body (enumL (ls.map Ln.d) k) ρ M = .ret (.d (.int (k + j : Nat))) M
    | none => ∃ ρ2, forL mg body (enumL (ls.map Ln.d) k) ρ M = .nx ρ2 M ∧ I ρ2
  | [], k, ρ, h, _ => ⟨ρ, rfl, h⟩
  | l :: ls, k, ρ, h, hs => by
    obtain ⟨ρ1, e1, e2⟩ := hs l List.mem_cons_self k ρ h
    have ih := fun ρ2 h2 => forL_first f I ls (k + 1) ρ2 h2 fun z hz => hs z (List.mem_cons_of_mem _ hz)
    rw [List.map_cons, enumL, forL_cons, e1, flK_ok, List.findIdx?_cons]
    cases q : f l with
    | true =>
      rw [q, if_pos rfl] at e2
      rw [if_pos rfl, e2]
      simp
    | false =>
      rw [q, if_neg Bool.false_ne_true] at e2
      obtain ⟨ρ2, e3, h2⟩ := e2
      rw [if_neg Bool.false_ne_true, e3, flK2_nx]
      have := ih ρ2 h2
      cases q2 : ls.findIdx? f with
      | none =>
        rw [q2] at this
        exact this
      | some j =>
        rw [q2] at this
        simp only [Option.map_some]
        rw [this]
        congr 4
        omega
def fit (p : List Nat) (x : Nat) : Bool := p == [46] || decide (x ∈ p)
/-- a question: the gap's letters and the comer -/
structure Qn where
  l : Nat
  r : Nat
  c : Nat
def fitL (q : Qn) (ln : Ln) : Bool := fit ln.a q.l && (fit ln.b q.c && fit ln.c q.r)
def atD : Option Nat → D
  | some i => .int i
  | none => .non
theorem takes_ok {p : List Nat} {x : Nat} {M : Mem} : m_takes [.d (.str p), .d (.str [x])] M = .ok (.d (.bl (fit p x))) M := by
  unfold m_takes
  rw [fnM_eq]
  unfold b_takes fit
  simp
  cases p == [46] <;> simp
theorem fits_ok {p : List Nat} {x : Nat} {M : Mem} : m__law_fits [.d (.str p), .d (.str [x])] M = .ok (.d (.bl (fit p x))) M := by
  unfold m__law_fits
  rw [fnM_eq]
  unfold b__law_fits fit
  simp
  cases p == [46] <;> simp
theorem law_line_at_ok {t u : List Nat} {ls : List Ln} {q : Qn} {M : Mem} : m__law_line_at [.d (specD t u ls), .d (.str [q.l, q.r]), .d (.str [q.c])] M = .ok (.d (atD (ls.findIdx? (fitL q)))) M := by
  have hlim := lim_eq
  unfold m__law_line_at
  rw [fnM_eq]
  unfold b__law_line_at
  simp
  have key := forL_first (mg := g_tup 2 (g_cons (g_name 3) (g_cons (g_name 4) g_nil))) (body := (s_seq (s_asg (e_lst (a_cons (e_call 2 m__law_fits (a_cons (e_op f_ix (e_var 4) (e_c (.int 0))) (a_cons (e_op f_ix (e_var 1) (e_c (.int 0))) a_nil))) (a_cons (e_call 2 m__law_fits (a_cons (e_op f_ix (e_var 4) (e_c (.int 1))) (a_cons (e_var 2) a_nil))) (a_cons (e_call 2 m__law_fits (a_cons (e_op f_ix (e_var 4) (e_c (.int 2))) (a_cons (e_op f_ix (e_var 1) (e_c (.int 1))) a_nil))) a_nil)))) (g_name 5))
    (s_if (e_truth (e_bi (f_bls fun bs => bs.all id) (a_cons (e_var 5) a_nil))) (s_ret (e_var 3)) s_skip))) (M := M) (fitL q) (fun ρ => ∃ x3 x4 x5, ρ = [some (.d (specD t u ls)), some (.d (.str [q.l, q.r])), some (.d (.str [q.c])), x3, x4, x5]) ls 0 [some (.d (specD t u ls)), some (.d (.str [q.l, q.r])), some (.d (.str [q.c])), none, none, none] ⟨none, none, none, rfl⟩ (by
    rintro l hl i ρ ⟨x3, x4, x5, rfl⟩
    refine ⟨_, rfl, ?_⟩
    have q2 : 2 ≤ lim := by omega
    have q3 : 3 ≤ lim := by omega
    simp [fits_ok, q2, q3]
    cases e : fitL q l with
    | true =>
      unfold fitL at e
      simp at e
      simp [e]
    | false =>
      have e' : (fit l.a q.l && (fit l.b q.c && fit l.c q.r)) = false := e
      simp [e'])
  cases e : ls.findIdx? (fitL q) with
  | some j =>
    rw [e] at key
    simp at key
    rw [key]
    simp [atD]
  | none =>
    rw [e] at key
    obtain ⟨ρ2, e2, _⟩ := key
    rw [e2]
    simp [atD]
end G

namespace G
open PySem PySem.Spec PyProof.Rows L2 TL
theorem is_one_c {c : Nat} {u : List Nat} {M : Mem} : m_is_one [.d (.str [c]), .d (.str u)] M = .ok (.d (.bl (decide (c ∈ u)))) M := by
  have hlim := lim_eq
  have q1 : 1 ≤ lim := by omega
  unfold m_is_one
  rw [fnM_eq]
  unfold b_is_one
  simp [q1]
/-- a question that the book has -/
structure QnOk (t u : List Nat) (q : Qn) : Prop where
  l : q.l ∈ 60 :: t
  r : q.r ∈ t ++ [62]
  c : q.c ∈ u
theorem line_at_ok {t u : List Nat} {ls : List Ln} {q : Qn} (k : BkOk t u) (hq : QnOk t u q) {M : Mem} : m_Book_line_at [.d (bookD t u ls), .d (.str [q.l, q.r]), .d (.str [q.c])] M = .ok (.d (atD (ls.findIdx? (fitL q)))) M := by
  have hlim := lim_eq
  have h6 := k.t6
  have g2 := is_gap_2 q.l q.r t M (by omega)
  rw [show decide (q.l ∈ 60 :: t) = true by simpa using hq.l, show decide (q.r ∈ t ++ [62]) = true by simpa using hq.r] at g2
  have g1 := is_one_c (c := q.c) (u := u) (M := M)
  rw [show decide (q.c ∈ u) = true by simpa using hq.c] at g1
  have q2 : 2 ≤ lim := by omega
  unfold m_Book_line_at
  rw [fnM_eq]
  unfold b_Book_line_at
  simp [g1, g2]
  have key := forL_first (mg := g_tup 2 (g_cons (g_name 3) (g_cons (g_name 4) g_nil))) (body := (s_if (e_andT (e_truth (e_call 2 m_takes (a_cons (e_op f_ix (e_var 4) (e_c (.int 0))) (a_cons (e_op f_ix (e_var 1) (e_c (.int 0))) a_nil)))) (e_andT (e_truth (e_call 2 m_takes (a_cons (e_op f_ix (e_var 4) (e_c (.int 1))) (a_cons (e_var 2) a_nil)))) (e_truth (e_call 2 m_takes (a_cons (e_op f_ix (e_var 4) (e_c (.int 2))) (a_cons (e_op f_ix (e_var 1) (e_c (.int 1))) a_nil)))))) (s_ret (e_var 3)) s_skip)) (M := M) (fitL q) (fun ρ => ∃ x3 x4, ρ = [some (.d (bookD t u ls)), some (.d (.str [q.l, q.r])), some (.d (.str [q.c])), x3, x4]) ls 0 [some (.d (bookD t u ls)), some (.d (.str [q.l, q.r])), some (.d (.str [q.c])), none, none] ⟨none, none, rfl⟩ (by
    rintro l hl i ρ ⟨x3, x4, rfl⟩
    refine ⟨_, rfl, ?_⟩
    unfold fitL
    cases e1 : fit l.a q.l with
    | false => simp [takes_ok, q2, e1]
    | true =>
      cases e2 : fit l.b q.c with
      | false => simp [takes_ok, q2, e1, e2]
      | true =>
        cases e3 : fit l.c q.r with
        | false => simp [takes_ok, q2, e1, e2, e3]
        | true => simp [takes_ok, q2, e1, e2, e3])
  cases e : ls.findIdx? (fitL q) with
  | some j =>
    rw [e] at key
    simp at key
    rw [key]
    simp [atD]
  | none =>
    rw [e] at key
    obtain ⟨ρ2, e2, _⟩ := key
    rw [e2]
    simp [atD]
/-- the word of the first line that takes -/
def wordQ (ls : List Ln) (q : Qn) : List Nat := match ls.find? (fitL q) with
  | some l => l.w
  | none => []
theorem word_ok {t u : List Nat} {ls : List Ln} {q : Qn} (k : BkOk t u) (hq : QnOk t u q) {M : Mem} : m_Book_word [.d (bookD t u ls), .d (.str [q.l, q.r]), .d (.str [q.c])] M = .ok (.d (.str (wordQ ls q))) M := by
  unfold m_Book_word
  rw [fnM_eq]
  unfold b_Book_word
  simp [line_at_ok k hq]
  unfold wordQ
  rw [findIdx_find]
  cases e : ls.findIdx? (fitL q) with
  | none => simp [atD]
  | some j =>
    have hj : j < ls.length := by
      rw [List.findIdx?_eq_some_iff_findIdx_eq] at e
      exact e.1
    have hd : atI (ls.map Ln.d) (j : Int) = some (Ln.d ls[j]) := atI_nat' (by simp [hj])
    simp [atD, hd, List.getElem?_eq_getElem hj]
def gapsP (t : List Nat) : List (Nat × Nat) := (60 :: t).flatMap fun l => (t ++ [62]).map fun r => (l, r)
def gapD (g : Nat × Nat) : D := .str [g.1, g.2]
theorem gaps_len (t : List Nat) : (gapsP t).length = (t.length + 1) * (t.length + 1) := by
  unfold gapsP
  have : ∀ (xs : List Nat), (xs.flatMap fun l => (t ++ [62]).map fun r => (l, r)).length = xs.length * (t.length + 1) := fun xs => by
    induction xs with
    | nil => simp
    | cons x xs ih => rw [List.flatMap_cons, List.length_append, ih]; simp [Nat.add_mul]; omega
  rw [this]
  simp
theorem map_gaps (t : List Nat) : ((60 :: t).flatMap fun l => (t ++ [62]).map fun r => D.str [l, r]) = (gapsP t).map gapD := by
  unfold gapsP gapD
  rw [List.map_flatMap]
  simp [Function.comp_def]
theorem sq_le {n m : Nat} (h : n ≤ m) : n * n ≤ m * m := Nat.mul_le_mul h h
theorem all_gaps_ok {t : List Nat} (h : t.length ≤ 30) {M : Mem} : m_all_gaps [.d (.str t)] M = .ok (.d (.lst ((gapsP t).map gapD))) M := by
  have hlim := lim_eq
  unfold m_all_gaps
  rw [fnM_eq]
  unfold b_all_gaps
  simp (disch := first | (simp; done) | omega) [ifl]
  have hg := gaps_len t
  have hs := sq_le (n := t.length + 1) (m := 31) (by omega)
  rw [chars, comp2_map (fun c => D.str [c]) (fun _ => t ++ [62]) (fun c => D.str [c]) (fun l r => D.str [l, r]) (60 :: t) [] (fun l hl => ⟨_, rfl, by simp, by simp (disch := first | (simp; done) | omega) [ifl, chars], fun r hr => by simp (disch := first | (simp; done) | omega) [ifl]⟩) (by rw [map_gaps, List.length_map, hg]; simp; omega)]
  rw [map_gaps]
  simp
theorem law_all_gaps_ok {t : List Nat} (h : t.length ≤ 30) {M : Mem} : m__law_all_gaps [.d (.str t)] M = .ok (.d (.lst ((gapsP t).map gapD))) M := by
  have hlim := lim_eq
  have hg := gaps_len t
  have hs := sq_le (n := t.length + 1) (m := 31) (by omega)
  unfold m__law_all_gaps
  rw [fnM_eq]
  unfold b__law_all_gaps
  simp (disch := first | (simp; done) | omega) [ifl]
  have key : ∀ (xs : List Nat) (acc : List D) (x2 : Option VD), acc.length + xs.length * (t.length + 1) ≤ lim → ∃ y2, forL (g_name 2) (s_asg (e_op f_add (e_var 1) (e_comp [3] (i_any (e_op f_add (e_var 0) (e_c (.str [62])))) (g_name 3) e_yes (e_op f_add (e_var 2) (e_var 3)))) (g_name 1)) (xs.map fun c => D.str [c]) [some (.d (.str t)), some (.d (.lst acc)), x2, none] M = .nx [some (.d (.str t)), some (.d (.lst (acc ++ xs.flatMap fun l => (t ++ [62]).map fun r => D.str [l, r]))), y2, none] M := by
    intro xs
    induction xs with
    | nil => exact fun acc x2 _ => ⟨x2, by simp⟩
    | cons x xs ih =>
      intro acc x2 hl
      rw [List.length_cons, Nat.add_mul] at hl
      obtain ⟨y2, e⟩ := ih (acc ++ (t ++ [62]).map fun r => D.str [x, r]) (some (.d (.str [x]))) (by rw [List.length_append]; simp; omega)
      refine ⟨y2, ?_⟩
      rw [List.map_cons, forL_cons]
      simp (disch := first | (simp; done) | omega) [ifl]
      rw [chars, compL_mapA (fun c => D.str [c]) (fun r => D.str [x, r]) (t ++ [62]) [] (fun r hr => by simp (disch := first | (simp; done) | omega) [ifl]) (by simp; omega)]
      simp (disch := first | (simp; done) | omega) [ifl]
      simp at e
      exact e
  obtain ⟨y2, e⟩ := key (60 :: t) [] none (by simp; omega)
  rw [chars, e]
  rw [map_gaps]
  simp
end G

namespace G
open PySem PySem.Spec PyProof.Rows L2 TL
/-- all questions -/
def qs (t u : List Nat) : List Qn := (gapsP t).flatMap fun g => u.map fun c => ⟨g.1, g.2, c⟩
theorem gaps_mem {t : List Nat} {g : Nat × Nat} (h : g ∈ gapsP t) : g.1 ∈ 60 :: t ∧ g.2 ∈ t ++ [62] := by
  unfold gapsP at h
  obtain ⟨l, hl, h⟩ := List.mem_flatMap.mp h
  obtain ⟨r, hr, rfl⟩ := List.mem_map.mp h
  exact ⟨hl, hr⟩
theorem qs_ok {t u : List Nat} {q : Qn} (h : q ∈ qs t u) : QnOk t u q := by
  unfold qs at h
  obtain ⟨g, hg, h⟩ := List.mem_flatMap.mp h
  obtain ⟨c, hc, rfl⟩ := List.mem_map.mp h
  exact ⟨(gaps_mem hg).1, (gaps_mem hg).2, hc⟩
theorem qs_mem {t u : List Nat} {g : Nat × Nat} {c : Nat} (hg : g ∈ gapsP t) (hc : c ∈ u) : (⟨g.1, g.2, c⟩ : Qn) ∈ qs t u :=
  List.mem_flatMap.mpr ⟨g, hg, List.mem_map.mpr ⟨c, hc, rfl⟩⟩
/-- where each question is answered -/
def usedD (t u : List Nat) (ls : List Ln) : List D := (gapsP t).flatMap fun g => u.map fun c => atD (ls.findIdx? (fitL ⟨g.1, g.2, c⟩))
theorem usedD_eq {t u : List Nat} {ls : List Ln} : usedD t u ls = (qs t u).map fun q => atD (ls.findIdx? (fitL q)) := by
  unfold usedD qs
  rw [List.map_flatMap]
  simp [Function.comp_def]
theorem usedD_len {t u : List Nat} {ls : List Ln} : (usedD t u ls).length = (gapsP t).length * u.length := by
  unfold usedD
  induction gapsP t with
  | nil => simp
  | cons g r ih => rw [List.flatMap_cons, List.length_append, ih]; simp [Nat.add_mul]; omega
theorem eqv_ni {i : Int} : D.eqv .non (.int i) = false := rfl
theorem pl_atD {n : Nat} (o : Option Nat) : D.pl n (atD o) = true := by cases o <;> simp [atD]
theorem plA_all {n : Nat} : ∀ {xs : List D}, (∀ x ∈ xs, D.pl n x = true) → D.plA n xs = true
  | [], _ => by simp
  | x :: xs, h => by simp [h x (by simp), plA_all (n := n) (xs := xs) fun y hy => h y (by simp [hy])]
theorem plA_used {n : Nat} {t u : List Nat} {ls : List Ln} : D.plA n (usedD t u ls) = true := by
  rw [usedD_eq]
  refine plA_all fun x hx => ?_
  obtain ⟨q, _, rfl⟩ := List.mem_map.mp hx
  exact pl_atD _
theorem any_used {t u : List Nat} {ls : List Ln} {i : Nat} : ((usedD t u ls).any fun z => D.eqv z (.int i)) = usedQ fitL (qs t u) ls i := by
  rw [usedD_eq, List.any_map]
  unfold usedQ
  congr 1
  funext q
  simp only [Function.comp_def]
  cases e : ls.findIdx? (fitL q) with
  | none => simp [atD, eqv_ni]
  | some j =>
    simp [atD]
    rw [Bool.eq_iff_iff]
    simp
    omega
def idleN (t u : List Nat) (ls : List Ln) : List Nat := (List.range' 0 ls.length).filter fun i => !usedQ fitL (qs t u) ls i
def idleD (t u : List Nat) (ls : List Ln) : List D := (idleN t u ls).map fun (i : Nat) => .int i
theorem idleN_len {t u : List Nat} {ls : List Ln} : (idleN t u ls).length ≤ ls.length := by
  have := List.length_filter_le (fun i => !usedQ fitL (qs t u) ls i) (List.range' 0 ls.length)
  unfold idleN
  simpa using this
theorem used_lim {t u : List Nat} (k : BkOk t u) {ls : List Ln} : (usedD t u ls).length ≤ 196 := by
  rw [usedD_len, gaps_len]
  have h6 := k.t6
  have h4 := k.u4
  have h1 := sq_le (n := t.length + 1) (m := 7) (by omega)
  have h2 := Nat.mul_le_mul h1 h4
  omega
theorem used_comp {t u : List Nat} {ls : List Ln} (k : BkOk t u) {M : Mem} {x2 x3 x4 : Option VD} : comp2 [2, 3] [3] (g_name 2) e_yes (i_any (e_fld (tb 0 1) (e_var 0))) (g_name 3) e_yes (e_meth 0 (ar 3 m_Book_line_at) (e_var 0) (a_cons (e_var 2) (a_cons (e_var 3) a_nil))) [some (.d (bookD t u ls)), none, x2, x3, x4] ((gapsP t).map gapD) M [] = .ok (usedD t u ls) M := by
  have hlim := lim_eq
  have hl := used_lim k (ls := ls)
  have e := comp2_map (vs := [2, 3]) (vs1 := [3]) (mg := g_name 2) (mt := e_yes) (mi1 := i_any (e_fld (tb 0 1) (e_var 0))) (mg1 := g_name 3) (mt1 := e_yes) (me := e_meth 0 (ar 3 m_Book_line_at) (e_var 0) (a_cons (e_var 2) (a_cons (e_var 3) a_nil))) (ρ := [some (.d (bookD t u ls)), none, x2, x3, x4]) (M := M) gapD (fun _ => u) (fun c => D.str [c]) (fun g c => atD (ls.findIdx? (fitL ⟨g.1, g.2, c⟩))) (gapsP t) [] (fun g hg => ⟨_, rfl, by simp, by simp [chars], fun c hc => by
    have := line_at_ok (ls := ls) (M := M) k (qs_ok (qs_mem hg hc))
    simp [gapD, this]⟩) (by
      show 0 + (usedD t u ls).length ≤ lim
      omega)
  exact e
theorem ni_comp {t u : List Nat} {ls : List Ln} {M : Mem} (hn : ls.length ≤ 8) {x2 x3 x4 : Option VD} : compL (cTurn [4] (g_name 4) (e_asB (e_op f_ni (e_var 4) (e_var 1))) (e_var 4) [some (.d (bookD t u ls)), some (.d (.lst (usedD t u ls))), x2, x3, x4]) ((List.range' 0 ls.length).map fun (i : Nat) => D.int i) M [] = .ok (idleD t u ls) M := by
  have hlim := lim_eq
  rw [compL_filterA (fun i => !usedQ fitL (qs t u) ls i) (fun (i : Nat) => D.int i) (fun (i : Nat) => D.int i) (List.range' 0 ls.length) [] (fun i hi => by
    simp [plA_used, any_used]
    cases usedQ fitL (qs t u) ls i <;> simp) (by simp; omega)]
  rfl
theorem idle_ok {t u : List Nat} {ls : List Ln} (k : BkOk t u) (hn : ls.length ≤ 8) {M : Mem} : m_Book_idle [.d (bookD t u ls)] M = .ok (.d (.lst (idleD t u ls))) M := by
  have hlim := lim_eq
  have h6 := k.t6
  unfold m_Book_idle
  rw [fnM_eq]
  unfold b_Book_idle
  simp [all_gaps_ok (t := t) (by omega), used_comp k]
  rw [rngK1_nat (by omega), range_eq]
  simp [ni_comp hn]
theorem keep_idle {t u : List Nat} {ls : List Ln} : idleN t u (keepQ fitL (qs t u) ls) = [] := by
  unfold idleN
  rw [List.filter_eq_nil_iff]
  intro i hi
  have hi : i < (keepQ fitL (qs t u) ls).length := by
    have := (List.mem_range'_1.mp hi).2
    omega
  obtain ⟨q, hq, e⟩ := keepQ_used fitL ls (qs t u) i hi
  simp [usedQ]
  exact ⟨q, hq, e⟩
theorem word_keep {t u : List Nat} {ls : List Ln} {q : Qn} (hq : q ∈ qs t u) : wordQ (keepQ fitL (qs t u) ls) q = wordQ ls q := by
  unfold wordQ
  rw [keepQ_find fitL ls (qs t u) q hq]
/-- numbered lines whose numbers don't stand in the list -/
theorem pick_comp {t u : List Nat} {ls0 : List Ln} {turn : D → Mem → Res (Option D)} {M : Mem} (f : Nat → Bool) : ∀ (ls : List Ln) (k : Nat) (acc : List D), (∀ (i : Nat) l, k ≤ i → i < k + ls.length → turn (.tup [.int i, Ln.d l]) M = .ok (if f i then some (Ln.d l) else none) M) → acc.length + ls.length ≤ lim → compL turn (enumL (ls.map Ln.d) k) M acc = .ok (acc ++ (pick f k ls).map Ln.d) M
  | [], k, acc, _, _ => by simp [enumL, pick]
  | l :: ls, k, acc, h, hl => by
    rw [List.map_cons, enumL, compL_cons, h k l (Nat.le_refl _) (by simp)]
    rw [List.length_cons] at hl
    have ih := fun acc hl => pick_comp (t := t) (u := u) (ls0 := ls0) f ls (k + 1) acc (fun i l h1 h2 => h i l (by omega) (by simp; omega)) hl
    unfold pick
    cases f k with
    | true =>
      rw [if_pos rfl, if_pos rfl, clK_some, if_pos (by omega), ih _ (by simp; omega)]
      simp
    | false =>
      rw [if_neg Bool.false_ne_true, if_neg Bool.false_ne_true, clK_none, ih _ (by omega)]
end G

/-! rows, steps, plays -/
namespace G
open PySem PySem.Spec PyProof.Rows L2 TL
theorem cut_two {α : Type} {xs : List α} {p : Nat} (h : p + 2 ≤ xs.length) : cut xs (some (p : Int)) (some ((p : Int) + 2)) = [xs[p], xs[p + 1]] := by
  unfold cut HT.sIx
  dsimp only
  rw [if_neg (by omega), if_neg (by omega)]
  rw [show min ((p : Int)).toNat xs.length = p by omega, show min ((p : Int) + 2).toNat xs.length = p + 2 by omega, show p + 2 - p = 2 by omega]
  rw [List.drop_eq_getElem_cons (show p < xs.length by omega), List.drop_eq_getElem_cons (show p + 1 < xs.length by omega)]
  rfl
/-- the row between its borders -/
def brd (row : List Nat) : List Nat := 60 :: (row ++ [62])
theorem brd_len {row : List Nat} : (brd row).length = row.length + 2 := by simp [brd]
/-- the question at a place -/
def gapQ (row : List Nat) (p c : Nat) : Qn := ⟨(brd row).getD p 0, (brd row).getD (p + 1) 0, c⟩
theorem brd_two {row : List Nat} {p c : Nat} (h : p ≤ row.length) : cut (brd row) (some (p : Int)) (some ((p : Int) + 2)) = [(gapQ row p c).l, (gapQ row p c).r] := by
  have hl := brd_len (row := row)
  rw [cut_two (by omega)]
  unfold gapQ
  rw [List.getD_eq_getElem?_getD, List.getD_eq_getElem?_getD, List.getElem?_eq_getElem (show p < (brd row).length by omega), List.getElem?_eq_getElem (show p + 1 < (brd row).length by omega)]
  rfl
theorem gapQ_ok {t u row : List Nat} {p c : Nat} (hr : ∀ x ∈ row, x ∈ t) (hp : p ≤ row.length) (hc : c ∈ u) : QnOk t u (gapQ row p c) := by
  have hl := brd_len (row := row)
  refine ⟨?_, ?_, hc⟩
  · unfold gapQ
    dsimp only
    rw [List.getD_eq_getElem?_getD, List.getElem?_eq_getElem (show p < (brd row).length by omega)]
    show (brd row)[p] ∈ _
    cases p with
    | zero => simp [brd]
    | succ n =>
      have : (brd row)[n + 1]'(by omega) = row[n] := by
        simp [brd]
        rw [List.getElem_append_left (by omega)]
      rw [this]
      exact List.mem_cons_of_mem _ (hr _ (List.getElem_mem _))
  · unfold gapQ
    dsimp only
    rw [List.getD_eq_getElem?_getD, List.getElem?_eq_getElem (show p + 1 < (brd row).length by omega)]
    show (brd row)[p + 1] ∈ _
    by_cases q : p < row.length
    · have : (brd row)[p + 1]'(by omega) = row[p] := by
        simp [brd]
        rw [List.getElem_append_left q]
      rw [this]
      exact List.mem_append_left _ (hr _ (List.getElem_mem _))
    · have e : p = row.length := by omega
      subst e
      have : (brd row)[row.length + 1]'(by omega) = 62 := by simp [brd]
      rw [this]
      simp
theorem gap_at_ok {row : List Nat} {p : Nat} (c : Nat) (h : p ≤ row.length) (hn : row.length ≤ 1000) {M : Mem} : m_gap_at [.d (.str row), .d (.int p)] M = .ok (.d (.str [(gapQ row p c).l, (gapQ row p c).r])) M := by
  have hlim := lim_eq
  have e := brd_two (c := c) h
  unfold brd at e
  unfold m_gap_at
  rw [fnM_eq]
  unfold b_gap_at
  simp (disch := first | (simp; done) | omega) [ifl, e]
def gapsL (row : List Nat) : List D := (List.range' 0 (row.length + 1)).map fun p => .str [(gapQ row p 0).l, (gapQ row p 0).r]
theorem gapQ_0 {row : List Nat} {p c : Nat} : (gapQ row p c).l = (gapQ row p 0).l ∧ (gapQ row p c).r = (gapQ row p 0).r := ⟨rfl, rfl⟩
theorem row_gaps_ok {row : List Nat} (hn : row.length ≤ 1000) {M : Mem} : m_row_gaps [.d (.str row)] M = .ok (.d (.lst (gapsL row))) M := by
  have hlim := lim_eq
  unfold m_row_gaps
  rw [fnM_eq]
  unfold b_row_gaps
  simp (disch := first | (simp; done) | omega) [ifl]
  rw [range_eq]
  rw [compL_mapA (fun (i : Nat) => D.int i) (fun p => D.str [(gapQ row p 0).l, (gapQ row p 0).r]) (List.range' 0 (row.length + 1)) [] (fun p hp => by
    have := (List.mem_range'_1.mp hp).2
    simp [gap_at_ok 0 (show p ≤ row.length by omega) hn]) (by simp; omega)]
  simp [gapsL]
theorem law_row_gaps_ok {row : List Nat} (hn : row.length ≤ 1000) {M : Mem} : m__law_row_gaps [.d (.str row)] M = .ok (.d (.lst (gapsL row))) M := by
  have hlim := lim_eq
  unfold m__law_row_gaps
  rw [fnM_eq]
  unfold b__law_row_gaps
  simp
  unfold m__law_parts
  rw [fnM_eq]
  unfold b__law_parts
  simp (disch := first | (simp; done) | omega) [ifl]
  rw [range_eq]
  rw [compL_mapA (fun (i : Nat) => D.int i) (fun p => D.str [(gapQ row p 0).l, (gapQ row p 0).r]) (List.range' 0 (row.length + 1)) [] (fun p hp => by
    have := (List.mem_range'_1.mp hp).2
    have e := brd_two (row := row) (p := p) (c := 0) (by omega)
    unfold brd at e
    simp (disch := first | (simp; done) | omega) [ifl, e]) (by simp; omega)]
  simp [gapsL]
theorem gapsL_at {row : List Nat} {p c : Nat} (h : p ≤ row.length) : atI (gapsL row) (p : Int) = some (.str [(gapQ row p c).l, (gapQ row p c).r]) := by
  refine atI_nat' ?_
  unfold gapsL
  rw [List.getElem?_map, List.getElem?_range' (by omega)]
  simp [gapQ]
/-! births -/
def behR (ls : List Ln) (row : List Nat) (p c : Nat) : List Nat := row.take p ++ (wordQ ls (gapQ row p c) ++ row.drop p)
theorem wordQ_ok {t u : List Nat} {ls : List Ln} (h : ∀ l ∈ ls, LnOk t u l) (q : Qn) : (∀ x ∈ wordQ ls q, x ∈ t) ∧ (wordQ ls q).length ≤ 3 := by
  unfold wordQ
  cases e : ls.find? (fitL q) with
  | none => simp
  | some l =>
    have := h l (List.mem_of_find?_eq_some e)
    exact ⟨this.w, this.n⟩
theorem behR_sub {t u : List Nat} {ls : List Ln} (h : ∀ l ∈ ls, LnOk t u l) {row : List Nat} (hr : ∀ x ∈ row, x ∈ t) (p c : Nat) : ∀ x ∈ behR ls row p c, x ∈ t := fun x hx => by
  unfold behR at hx
  rcases List.mem_append.mp hx with hx | hx
  · exact hr x (List.mem_of_mem_take hx)
  · rcases List.mem_append.mp hx with hx | hx
    · exact (wordQ_ok h _).1 x hx
    · exact hr x (List.mem_of_mem_drop hx)
theorem behR_len {t u : List Nat} {ls : List Ln} (h : ∀ l ∈ ls, LnOk t u l) {row : List Nat} (p c : Nat) : (behR ls row p c).length ≤ row.length + 3 := by
  have := (wordQ_ok h (gapQ row p c)).2
  unfold behR
  simp
  omega
theorem behind_ok {t u : List Nat} {ls : List Ln} (k : BkOk t u) (h : ∀ l ∈ ls, LnOk t u l) {row : List Nat} {p c : Nat} (hr : ∀ x ∈ row, x ∈ t) (hp : p ≤ row.length) (hn : row.length ≤ 100) (hc : c ∈ u) {M : Mem} : m_behind [.d (bookD t u ls), .d (.str row), .d (.int p), .d (.str [c])] M = .ok (.d (.str (behR ls row p c))) M := by
  have hlim := lim_eq
  have hw := (wordQ_ok h (gapQ row p c)).2
  have e := word_ok (ls := ls) (M := M) k (gapQ_ok (u := u) hr hp hc)
  rw [show (gapQ row p c).c = c from rfl] at e
  unfold m_behind
  rw [fnM_eq]
  unfold b_behind behR
  simp (disch := first | (simp; done) | omega) [ifl, gap_at_ok c hp (by omega), e, cut_take hp, cut_drop hp]
theorem law_behind_ok {t u : List Nat} {ls : List Ln} (h : ∀ l ∈ ls, LnOk t u l) {row : List Nat} {p c : Nat} (hp : p ≤ row.length) (hn : row.length ≤ 100) {M : Mem} : m__law_behind [.d (specD t u ls), .d (.str row), .d (.int p), .d (.str [c])] M = .ok (.d (.str (behR ls row p c))) M := by
  have hlim := lim_eq
  have hw := (wordQ_ok h (gapQ row p c)).2
  have e := law_line_at_ok (t := t) (u := u) (ls := ls) (q := gapQ row p c) (M := M)
  rw [show (gapQ row p c).c = c from rfl] at e
  have e2 : m__law_word [.d (specD t u ls), .d (.str [(gapQ row p c).l, (gapQ row p c).r]), .d (.str [c])] M = .ok (.d (.str (wordQ ls (gapQ row p c)))) M := by
    unfold m__law_word
    rw [fnM_eq]
    unfold b__law_word
    simp [e]
    unfold wordQ
    rw [findIdx_find]
    cases e : ls.findIdx? (fitL (gapQ row p c)) with
    | none => simp [atD]
    | some j =>
      have hj : j < ls.length := by
        rw [List.findIdx?_eq_some_iff_findIdx_eq] at e
        exact e.1
      have hd : atI (ls.map Ln.d) (j : Int) = some (Ln.d ls[j]) := atI_nat' (by simp [hj])
      simp [atD, hd, List.getElem?_eq_getElem hj]
  unfold m__law_behind
  rw [fnM_eq]
  unfold b__law_behind behR
  simp (disch := first | (simp; done) | omega) [ifl, law_row_gaps_ok (row := row) (by omega), gapsL_at (c := c) hp, e2, cut_take hp, cut_drop hp]
end G

namespace G
open PySem PySem.Spec PyProof.Rows L2 TL
def stepD (s : Nat × Nat) : D := .tup [.int s.1, .str [s.2]]
def playR (ls : List Ln) : List Nat → List (Nat × Nat) → List Nat
  | row, [] => row
  | row, s :: r => playR ls (behR ls row s.1 s.2) r
/-- steps that can be played, no row longer than 60 -/
def okS (u : List Nat) (ls : List Ln) : List Nat → List (Nat × Nat) → Prop
  | _, [] => True
  | row, s :: r => s.1 ≤ row.length ∧ s.2 ∈ u ∧ (behR ls row s.1 s.2).length ≤ 60 ∧ okS u ls (behR ls row s.1 s.2) r
theorem playR_snoc {ls : List Ln} : ∀ {row : List Nat} {ss : List (Nat × Nat)} {s : Nat × Nat}, playR ls row (ss ++ [s]) = behR ls (playR ls row ss) s.1 s.2
  | _, [], _ => rfl
  | row, z :: ss, s => playR_snoc (row := behR ls row z.1 z.2) (ss := ss)
theorem okS_snoc {u : List Nat} {ls : List Ln} : ∀ {row : List Nat} {ss : List (Nat × Nat)} {s : Nat × Nat}, okS u ls row ss → s.1 ≤ (playR ls row ss).length → s.2 ∈ u → (behR ls (playR ls row ss) s.1 s.2).length ≤ 60 → okS u ls row (ss ++ [s])
  | _, [], _, _, h1, h2, h3 => ⟨h1, h2, h3, trivial⟩
  | row, z :: ss, s, h, h1, h2, h3 => ⟨h.1, h.2.1, h.2.2.1, okS_snoc (row := behR ls row z.1 z.2) (ss := ss) h.2.2.2 h1 h2 h3⟩
theorem okS_take {u : List Nat} {ls : List Ln} : ∀ {row : List Nat} {ss : List (Nat × Nat)} (n : Nat), okS u ls row ss → okS u ls row (ss.take n)
  | _, _, 0, _ => by simp [okS]
  | _, [], _ + 1, _ => by simp [okS]
  | row, z :: ss, n + 1, h => ⟨h.1, h.2.1, h.2.2.1, okS_take n h.2.2.2⟩
theorem playR_sub {t u : List Nat} {ls : List Ln} (h : ∀ l ∈ ls, LnOk t u l) : ∀ {row : List Nat} (ss : List (Nat × Nat)), (∀ x ∈ row, x ∈ t) → ∀ x ∈ playR ls row ss, x ∈ t
  | _, [], hr => hr
  | row, s :: ss, hr => playR_sub h ss (behR_sub h hr s.1 s.2)
theorem playR_len {u : List Nat} {ls : List Ln} : ∀ {row : List Nat} {ss : List (Nat × Nat)}, okS u ls row ss → row.length ≤ 60 → (playR ls row ss).length ≤ 60
  | _, [], _, hn => hn
  | row, s :: ss, h, _ => playR_len (row := behR ls row s.1 s.2) (ss := ss) h.2.2.2 h.2.2.1
theorem is_step_ok {t u : List Nat} {ls : List Ln} {s : Nat × Nat} {n : Nat} (h1 : s.1 ≤ n) (h2 : s.2 ∈ u) {M : Mem} : m_is_step [.d (stepD s), .d (bookD t u ls), .d (.int n)] M = .ok (.d (.bl true)) M := by
  have hlim := lim_eq
  unfold m_is_step
  rw [fnM_eq]
  unfold b_is_step
  have g1 := is_one_c (c := s.2) (u := u) (M := M)
  rw [show decide (s.2 ∈ u) = true by simpa using h2] at g1
  have g2 := is_number_i s.1 0 n M
  rw [show (decide ((0 : Int) ≤ s.1) && decide ((s.1 : Int) ≤ n)) = true by simp; omega] at g2
  simp [stepD, g1, g2]
theorem check_ok {t u : List Nat} {ls : List Ln} {row : List Nat} (hr : ∀ x ∈ row, x ∈ t) (hn : row.length ≤ 16) {M : Mem} : m_check_row [.d (bookD t u ls), .d (.str row)] M = .ok (.d .non) M := by
  have hlim := lim_eq
  have e := is_row_s row t M (by omega)
  rw [show (row.all fun c => decide (c ∈ t)) = true by simpa using hr, show decide ((row.length : Int) ≤ 16) = true by simp; omega] at e
  unfold m_check_row
  rw [fnM_eq]
  unfold b_check_row
  simp [e]
theorem play_loop {t u : List Nat} {ls : List Ln} (k : BkOk t u) (h : ∀ l ∈ ls, LnOk t u l) {x1 x2 : Option VD} {M : Mem} : ∀ (ss : List (Nat × Nat)) (row : List Nat) (i : Nat) (x4 x5 : Option VD), okS u ls row ss → (∀ x ∈ row, x ∈ t) → row.length ≤ 60 → ∃ y4 y5, forL (g_tup 2 (g_cons (g_name 4) (g_cons (g_name 5) g_nil))) (s_seq (s_if (e_notT (e_truth (e_call 3 m_is_step (a_cons (e_var 5) (a_cons (e_var 0) (a_cons (e_bi f_len (a_cons (e_var 3) a_nil)) a_nil)))))) s_fail s_skip)
    (s_asg (e_call 4 m_behind (a_cons (e_var 0) (a_cons (e_var 3) (a_cons (e_op f_ix (e_var 5) (e_c (.int 0))) (a_cons (e_op f_ix (e_var 5) (e_c (.int 1))) a_nil))))) (g_name 3))) (enumL (ss.map stepD) i) [some (.d (bookD t u ls)), x1, x2, some (.d (.str row)), x4, x5] M = .nx [some (.d (bookD t u ls)), x1, x2, some (.d (.str (playR ls row ss))), y4, y5] M
  | [], row, i, x4, x5, _, _, _ => ⟨x4, x5, rfl⟩
  | s :: ss, row, i, x4, x5, ho, hr, hn => by
    have hlim := lim_eq
    obtain ⟨h1, h2, h3, h4⟩ := ho
    obtain ⟨y4, y5, e⟩ := play_loop k h ss (behR ls row s.1 s.2) (i + 1) (some (.d (.int i))) (some (.d (stepD s))) h4 (behR_sub h hr s.1 s.2) h3
    refine ⟨y4, y5, ?_⟩
    rw [List.map_cons, enumL, forL_cons]
    have e1 := is_step_ok (t := t) (ls := ls) (M := M) h1 h2
    have e2 := behind_ok (M := M) k h hr h1 (by omega) h2
    have i0 : f_ix (.d (stepD s)) (.d (.int 0)) M = .ok (.d (.int s.1)) M := by simp [stepD]
    have i1 : f_ix (.d (stepD s)) (.d (.int 1)) M = .ok (.d (.str [s.2])) M := by simp [stepD]
    simp (disch := first | (simp; done) | omega) [ifl, e1, e2, i0, i1]
    exact e
theorem play_ok {t u : List Nat} {ls : List Ln} (k : BkOk t u) (h : ∀ l ∈ ls, LnOk t u l) {row : List Nat} {ss : List (Nat × Nat)} {d : D} (hd : d = .lst (ss.map stepD) ∨ d = .tup (ss.map stepD)) (ho : okS u ls row ss) (hr : ∀ x ∈ row, x ∈ t) (hn : row.length ≤ 16) {M : Mem} : m_play [.d (bookD t u ls), .d (.str row), .d d] M = .ok (.d (.str (playR ls row ss))) M := by
  obtain ⟨y4, y5, e⟩ := play_loop k h (x1 := some (.d (.str row))) (x2 := some (.d d)) (M := M) ss row 0 none none ho hr (by omega)
  unfold m_play
  rw [fnM_eq]
  unfold b_play
  rcases hd with rfl | rfl
  · simp [check_ok hr hn, e]
  · simp [check_ok hr hn, e]
theorem law_play_loop {t u : List Nat} {ls : List Ln} (h : ∀ l ∈ ls, LnOk t u l) {x1 x2 : Option VD} {M : Mem} : ∀ (ss : List (Nat × Nat)) (row : List Nat) (x4 x5 : Option VD), okS u ls row ss → row.length ≤ 60 → ∃ y4 y5, forL (g_tup 2 (g_cons (g_name 4) (g_cons (g_name 5) g_nil))) (s_asg (e_call 4 m__law_behind (a_cons (e_var 0) (a_cons (e_var 3) (a_cons (e_var 4) (a_cons (e_var 5) a_nil))))) (g_name 3)) (ss.map stepD) [some (.d (specD t u ls)), x1, x2, some (.d (.str row)), x4, x5] M = .nx [some (.d (specD t u ls)), x1, x2, some (.d (.str (playR ls row ss))), y4, y5] M
  | [], row, x4, x5, _, _ => ⟨x4, x5, rfl⟩
  | s :: ss, row, x4, x5, ho, hn => by
    obtain ⟨h1, h2, h3, h4⟩ := ho
    obtain ⟨y4, y5, e⟩ := law_play_loop h ss (behR ls row s.1 s.2) (some (.d (.int s.1))) (some (.d (.str [s.2]))) h4 h3
    refine ⟨y4, y5, ?_⟩
    rw [List.map_cons, forL_cons]
    have e2 := law_behind_ok (t := t) (u := u) (c := s.2) (M := M) h h1 (by omega)
    simp [stepD, e2]
    exact e
theorem law_play_ok {t u : List Nat} {ls : List Ln} (h : ∀ l ∈ ls, LnOk t u l) {row : List Nat} {ss : List (Nat × Nat)} (ho : okS u ls row ss) (hn : row.length ≤ 60) {M : Mem} : m__law_play [.d (specD t u ls), .d (.str row), .d (.lst (ss.map stepD))] M = .ok (.d (.str (playR ls row ss))) M := by
  obtain ⟨y4, y5, e⟩ := law_play_loop (t := t) (u := u) h (x1 := some (.d (.str row))) (x2 := some (.d (.lst (ss.map stepD)))) (M := M) ss row none none ho hn
  unfold m__law_play
  rw [fnM_eq]
  unfold b__law_play
  simp [e]
end G

namespace G
open PySem PySem.Spec PyProof.Rows L2 TL
def clrM (o : Option MO) (j : Nat) (M : Mem) : Res VD := match o with
  | some (.lst _) => .ok (.d .non) (M.set j (.lst []))
  | _ => .fail
def clrK (r : Res VD) : Res VD := r.bind f_clr
@[simp] theorem e_clr_eq {a ρ M} : e_clr a ρ M = clrK (a ρ M) := nrfl rfl
@[simp] theorem clrK_a {j : Nat} {M : Mem} : clrK (.ok (.adr j) M) = clrM (M[j]?) j M := nrfl rfl
@[simp] theorem clrM_ok {ds} {j : Nat} {M : Mem} : clrM (some (.lst ds)) j M = .ok (.d .non) (M.set j (.lst [])) := nrfl rfl
theorem history_okL {b : Bag} (hb : BagOk b) {t u : List Nat} {ls : List Ln} (k : BkOk t u) (h : ∀ l ∈ ls, LnOk t u l) {row : List Nat} (hr : ∀ x ∈ row, x ∈ t) (hn : row.length ≤ 60) {s0 s1 : Nat} (h0 : s0 ≤ 100) (h1 : s1 ≤ 60) : ∃ ss b', m__law_some_history [.adr 0, .d (specD t u ls), .d (.str row), .d (.lst [.int s0, .int s1])] [mo b] = .ok (.d (.tup [.lst (ss.map stepD), .str (playR ls row ss)])) [mo b'] ∧ BagOk b' ∧ okS u ls row ss ∧ ss.length ≤ s0 ∧ (playR ls row ss).length ≤ max s1 row.length := by
  have hlim := lim_eq
  have h4 := k.u4
  have hu0 : u ≠ [] := fun e => by have := k.u1; rw [e] at this; simp at this
  obtain ⟨v, b1, e1, hb1, hv, hv2⟩ := draw_ok hb (many := s0 + 1) (by omega) (by omega) [.lst []]
  obtain ⟨n, rfl⟩ := Int.eq_ofNat_of_zero_le hv
  unfold m__law_some_history
  rw [fnM_eq]
  unfold b__law_some_history
  simp (disch := first | (simp; done) | omega) [e1]
  rw [range_eq]
  obtain ⟨ρ2, M2, e, x4, ss, b', x7, x8, rfl, rfl, r1, r2, r3, r4⟩ := forL_cnt (mg := g_name 4) (body := (s_seq (s_asg (e_tup (a_cons (e_call 2 m__law_draw (a_cons (e_var 0) (a_cons (e_op f_add (e_bi f_len (a_cons (e_var 6) a_nil)) (e_c (.int 1))) a_nil))) (a_cons (e_call 2 m__law_of (a_cons (e_var 0) (a_cons (e_op f_ix (e_var 1) (e_c (.int 1))) a_nil))) a_nil))) (g_name 7))
    (s_seq (s_asg (e_call 4 m__law_behind (a_cons (e_var 1) (a_cons (e_var 6) (a_cons (e_op f_ix (e_var 7) (e_c (.int 0))) (a_cons (e_op f_ix (e_var 7) (e_c (.int 1))) a_nil))))) (g_name 8))
    (s_if (e_asB (e_op f_le (e_bi f_len (a_cons (e_var 8) a_nil)) (e_op f_ix (e_var 3) (e_c (.int 1))))) (s_seq (s_expr (e_app (e_var 5) (e_var 7)))
    (s_asg (e_var 8) (g_name 6))) s_skip)))) (fun i ρ M => ∃ (x4 : Option VD) (ss : List (Nat × Nat)) (b : Bag) (x7 x8 : Option VD), ρ = [some (.adr 0), some (.d (specD t u ls)), some (.d (.str row)), some (.d (.lst [.int s0, .int s1])), x4, some (.adr 1), some (.d (.str (playR ls row ss))), x7, x8] ∧ M = [mo b, .lst (ss.map stepD)] ∧ BagOk b ∧ okS u ls row ss ∧ ss.length ≤ i ∧ (playR ls row ss).length ≤ max s1 row.length) (fun (i : Nat) => D.int i) n 0 (by
    rintro i _ hi ρ M ⟨x4, ss, b, x7, x8, rfl, rfl, r1, r2, r3, r4⟩
    have hpl := playR_len r2 hn
    obtain ⟨v, b2, e2, hb2, hv, hv2⟩ := draw_ok r1 (many := (playR ls row ss).length + 1) (by omega) (by omega) [.lst (ss.map stepD)]
    obtain ⟨p, rfl⟩ := Int.eq_ofNat_of_zero_le hv
    obtain ⟨c, b3, e3, hb3, hc⟩ := ofs_ok hb2 hu0 (by omega) [.lst (ss.map stepD)]
    have hbl := behR_len h (row := playR ls row ss) p c
    have e4 := law_behind_ok (t := t) (u := u) (c := c) (M := [mo b3, .lst (ss.map stepD)]) h (row := playR ls row ss) (p := p) (by omega) (by omega)
    by_cases q : ((behR ls (playR ls row ss) p c).length : Int) ≤ s1
    · refine ⟨_, [some (.adr 0), some (.d (specD t u ls)), some (.d (.str row)), some (.d (.lst [.int s0, .int s1])), some (.d (.int i)), some (.adr 1), some (.d (.str (behR ls (playR ls row ss) p c))), some (.d (stepD (p, c))), some (.d (.str (behR ls (playR ls row ss) p c)))], [mo b3, .lst ((ss ++ [(p, c)]).map stepD)], rfl, ?_, some (.d (.int i)), ss ++ [(p, c)], b3, some (.d (stepD (p, c))), some (.d (.str (behR ls (playR ls row ss) p c))), by rw [playR_snoc], rfl, hb3, okS_snoc r2 (by show p ≤ _; omega) hc (by show (behR ls (playR ls row ss) p c).length ≤ 60; omega), by simp; omega, by rw [playR_snoc]; show (behR ls (playR ls row ss) p c).length ≤ _; omega⟩
      simp (disch := first | (simp; done) | omega) [e2, e3, e4, ifl, ifL, q, stepD]
    · refine ⟨_, [some (.adr 0), some (.d (specD t u ls)), some (.d (.str row)), some (.d (.lst [.int s0, .int s1])), some (.d (.int i)), some (.adr 1), some (.d (.str (playR ls row ss))), some (.d (stepD (p, c))), some (.d (.str (behR ls (playR ls row ss) p c)))], [mo b3, .lst (ss.map stepD)], rfl, ?_, some (.d (.int i)), ss, b3, some (.d (stepD (p, c))), some (.d (.str (behR ls (playR ls row ss) p c))), rfl, rfl, hb3, r2, by omega, r4⟩
      simp (disch := first | (simp; done) | omega) [e2, e3, e4, ifl, ifL, q, stepD]) _ [mo b1, .lst []] ⟨none, [], b1, none, none, rfl, rfl, hb1, trivial, by simp, by show row.length ≤ _; omega⟩
  rw [show playR ls row [] = row from rfl] at e
  rw [e]
  simp (disch := first | (simp; done) | omega) [ifl]
  refine ⟨ss, b', ?_, r1, r2, by omega, r4⟩
  have := trimC (x := D.tup [.lst (ss.map stepD), .str (playR ls row ss)]) (b := b') (l := [.dead]) Lst.nil
  simpa using this
theorem history_ok {b : Bag} (hb : BagOk b) {t u : List Nat} {ls : List Ln} (k : BkOk t u) (h : ∀ l ∈ ls, LnOk t u l) {row : List Nat} (hr : ∀ x ∈ row, x ∈ t) (hn : row.length ≤ 60) {s0 s1 : Nat} (h0 : s0 ≤ 100) (h1 : s1 ≤ 60) : ∃ ss b', m__law_some_history [.adr 0, .d (specD t u ls), .d (.str row), .d (.lst [.int s0, .int s1])] [mo b] = .ok (.d (.tup [.lst (ss.map stepD), .str (playR ls row ss)])) [mo b'] ∧ BagOk b' ∧ okS u ls row ss ∧ ss.length ≤ s0 := by
  obtain ⟨ss, b2, e, r1, r2, r3, -⟩ := history_okL hb k h hr hn h0 h1
  exact ⟨ss, b2, e, r1, r2, r3⟩
theorem Sz_step (s : Nat × Nat) : Sz (stepD s) := by
  have hlim := lim_eq
  refine .tup (by simp; omega) fun x hx => ?_
  simp at hx
  rcases hx with rfl | rfl
  · exact .int
  · exact .str
theorem same_steps {ss : List (Nat × Nat)} (h : ss.length ≤ 1000) (M : Mem) : m__law_same 8 [.d (.lst (ss.map stepD)), .d (.lst (ss.map stepD))] M = .ok (.d (.bl true)) M := by
  have hlim := lim_eq
  refine same_ok 7 _ M ?_ (by omega) (.lst (by rw [List.length_map]; omega) fun x hx => ?_)
  · rw [pl_lst]
    refine plA_all fun x hx => ?_
    obtain ⟨s, _, rfl⟩ := List.mem_map.mp hx
    simp [stepD]
  · obtain ⟨s, _, rfl⟩ := List.mem_map.mp hx
    exact Sz_step s
theorem same_str (s : List Nat) (M : Mem) : m__law_same 8 [.d (.str s), .d (.str s)] M = .ok (.d (.bl true)) M := same_ok 7 _ M (by simp) (by omega) .str
theorem gapsL_sz {row : List Nat} (h : row.length ≤ 1000) : Sz (.lst (gapsL row)) := by
  have hlim := lim_eq
  refine .lst (by unfold gapsL; simp; omega) fun x hx => ?_
  obtain ⟨p, _, rfl⟩ := List.mem_map.mp hx
  exact .str
theorem plA_gaps {n : Nat} {row : List Nat} : D.plA n (gapsL row) = true := plA_all fun x hx => by
  obtain ⟨p, _, rfl⟩ := List.mem_map.mp hx
  simp
theorem same_gaps {row : List Nat} (h : row.length ≤ 1000) (M : Mem) : m__law_same 8 [.d (.lst (gapsL row)), .d (.lst (gapsL row))] M = .ok (.d (.bl true)) M :=
  same_ok 7 _ M (by simp [plA_gaps]) (by omega) (gapsL_sz h)
theorem gaps_of_ok {t u : List Nat} {ls : List Ln} {row : List Nat} (hr : ∀ x ∈ row, x ∈ t) (hn : row.length ≤ 16) {M : Mem} : m_gaps_of [.d (bookD t u ls), .d (.str row)] M = .ok (.d (.lst (gapsL row))) M := by
  unfold m_gaps_of
  rw [fnM_eq]
  unfold b_gaps_of
  simp [check_ok hr hn, row_gaps_ok (row := row) (by omega)]
end G

/-! comers side by side -/
namespace G
open PySem PySem.Spec PyProof.Rows L2 TL
theorem brd_app {a b : List Nat} : brd (a ++ b) = (60 :: a) ++ (b ++ [62]) := by simp [brd]
theorem atI_neg1 {α : Type} {xs : List α} (h : xs ≠ []) : atI xs (-1) = xs[xs.length - 1]? := by
  have hl : 1 ≤ xs.length := List.length_pos_iff.mpr h
  unfold atI ixN
  rw [if_neg (by omega), if_pos (by omega)]
  show xs[(-1 + (xs.length : Int)).toNat]? = _
  rw [show (-1 + (xs.length : Int)).toNat = xs.length - 1 by omega]
theorem lastQ {a b : List Nat} (c : Nat) : atI (60 :: a) (-1) = some (gapQ (a ++ b) a.length c).l := by
  rw [atI_neg1 (by simp)]
  have : (brd (a ++ b))[a.length]? = (60 :: a)[a.length]? := by
    rw [brd_app, List.getElem?_append_left (by simp)]
  unfold gapQ
  dsimp only
  rw [List.getD_eq_getElem?_getD, this, List.length_cons, Nat.add_sub_cancel, List.getElem?_eq_getElem (show a.length < (60 :: a).length by simp)]
  rfl
theorem headQ {a b : List Nat} (c : Nat) : atI (b ++ [62]) 0 = some (gapQ (a ++ b) a.length c).r := by
  have : (brd (a ++ b))[a.length + 1]? = (b ++ [62])[0]? := by
    rw [brd_app, List.getElem?_append_right (by simp)]
    simp
  unfold gapQ
  dsimp only
  rw [List.getD_eq_getElem?_getD, this]
  cases b with
  | nil => exact atI_0
  | cons x b => exact atI_0
section
variable (ls : List Ln) (row : List Nat) (p : Nat) (cs : List Nat)
def lefW (ws : List (List Nat)) (a : Nat) : List Nat := row.take p ++ (ws.take a).flatten
def rigW (ws : List (List Nat)) (a : Nat) : List Nat := (ws.drop (a + 1)).flatten ++ row.drop p
def rowW (ws : List (List Nat)) : List Nat := row.take p ++ (ws.flatten ++ row.drop p)
def newW (ws : List (List Nat)) (a : Nat) : List Nat := wordQ ls (gapQ (lefW row p ws a ++ rigW row p ws a) (lefW row p ws a).length (cs.getD a 0))
def besW : List (List Nat) → List Nat → List (List Nat)
  | ws, [] => ws
  | ws, a :: r => besW (ws.set a (newW ls row p cs ws a)) r
theorem flat_at {ws : List (List Nat)} {a : Nat} {w : List Nat} (h : ws[a]? = some w) : ws.flatten = (ws.take a).flatten ++ (w ++ (ws.drop (a + 1)).flatten) := by
  have ha := (List.getElem?_eq_some_iff.mp h).1
  have e : ws = ws.take a ++ (w :: ws.drop (a + 1)) := by
    conv => lhs; rw [← List.take_append_drop a ws]
    rw [List.drop_eq_getElem_cons ha, (List.getElem?_eq_some_iff.mp h).2]
  conv => lhs; rw [e]
  simp
theorem row_old {ws : List (List Nat)} {a : Nat} (h : ws[a]? = some []) : rowW row p ws = lefW row p ws a ++ rigW row p ws a := by
  unfold rowW lefW rigW
  rw [flat_at h]
  simp
theorem row_set {ws : List (List Nat)} {a : Nat} {w : List Nat} (h : a < ws.length) : rowW row p (ws.set a w) = lefW row p ws a ++ (w ++ rigW row p ws a) := by
  unfold rowW lefW rigW
  rw [flat_at (ws := ws.set a w) (a := a) (w := w) (by rw [List.getElem?_set_self h]), List.take_set_of_le (by omega), List.drop_set_of_lt (by omega)]
  simp
theorem szs_flat : ∀ ss : List (List Nat), szs ss = ss.flatten.length
  | [] => rfl
  | s :: r => by simp [szs, szs_flat r]
theorem flat_take (ws : List (List Nat)) (a : Nat) : (ws.take a).flatten.length ≤ ws.flatten.length := by
  conv => rhs; rw [← List.take_append_drop a ws, List.flatten_append, List.length_append]
  omega
theorem flat_drop (ws : List (List Nat)) (a : Nat) : (ws.drop a).flatten.length ≤ ws.flatten.length := by
  conv => rhs; rw [← List.take_append_drop a ws, List.flatten_append, List.length_append]
  omega
/-- what is left to be done: each place once, its word still empty; words short, of the kinds -/
structure Bes (t u : List Nat) (ws : List (List Nat)) (rest : List Nat) : Prop where
  n : ws.length = cs.length
  nd : rest.Nodup
  lt : ∀ a ∈ rest, a < cs.length
  em : ∀ a ∈ rest, ws[a]? = some []
  sh : ∀ w ∈ ws, w.length ≤ 3
  su : ∀ w ∈ ws, ∀ x ∈ w, x ∈ t
end
theorem flat_le {k : Nat} : ∀ {ws : List (List Nat)}, (∀ w ∈ ws, w.length ≤ k) → ws.flatten.length ≤ k * ws.length := fun {ws} h => by
  rw [← szs_flat]
  exact szs_le h
theorem Bes.next {ls : List Ln} {row cs : List Nat} {p : Nat} {t u : List Nat} {ws : List (List Nat)} {a : Nat} {rest : List Nat} (hl : ∀ l ∈ ls, LnOk t u l) (h : Bes cs t u ws (a :: rest)) : Bes cs t u (ws.set a (newW ls row p cs ws a)) rest := by
  obtain ⟨n, nd, lt, em, sh, su⟩ := h
  have nd' := List.nodup_cons.mp nd
  have hw := wordQ_ok hl (gapQ (lefW row p ws a ++ rigW row p ws a) (lefW row p ws a).length (cs.getD a 0))
  refine ⟨by rw [List.length_set, n], nd'.2, fun b hb => lt b (List.mem_cons_of_mem _ hb), fun b hb => ?_, fun w hw' => ?_, fun w hw' => ?_⟩
  · rw [List.getElem?_set_ne (fun e => nd'.1 (by rw [e]; exact hb))]
    exact em b (List.mem_cons_of_mem _ hb)
  · rcases List.mem_or_eq_of_mem_set hw' with hw' | rfl
    · exact sh w hw'
    · exact hw.2
  · rcases List.mem_or_eq_of_mem_set hw' with hw' | rfl
    · exact su w hw'
    · exact hw.1
theorem law_word_ok {t u : List Nat} {ls : List Ln} {q : Qn} {M : Mem} : m__law_word [.d (specD t u ls), .d (.str [q.l, q.r]), .d (.str [q.c])] M = .ok (.d (.str (wordQ ls q))) M := by
  have e := law_line_at_ok (t := t) (u := u) (ls := ls) (q := q) (M := M)
  unfold m__law_word
  rw [fnM_eq]
  unfold b__law_word
  simp [e]
  unfold wordQ
  rw [findIdx_find]
  cases e : ls.findIdx? (fitL q) with
  | none => simp [atD]
  | some j =>
    have hj : j < ls.length := by
      rw [List.findIdx?_eq_some_iff_findIdx_eq] at e
      exact e.1
    have hd : atI (ls.map Ln.d) (j : Int) = some (Ln.d ls[j]) := atI_nat' (by simp [hj])
    simp [atD, hd, List.getElem?_eq_getElem hj]
end G

namespace G
open PySem PySem.Spec PyProof.Rows L2 TL
abbrev ilC : List Nat := [73, 110, 118, 97, 108, 105, 100, 76, 105, 110, 101]
/-- a comprehension over what is enumerated -/
def enF {α β : Type} (f : Nat → α → β) : Nat → List α → List β
  | _, [] => []
  | i, x :: r => f i x :: enF f (i + 1) r
theorem enF_len {α β : Type} {f : Nat → α → β} : ∀ {xs : List α} {i : Nat}, (enF f i xs).length = xs.length
  | [], _ => rfl
  | x :: r, i => by
    show (enF f (i + 1) r).length + 1 = r.length + 1
    rw [enF_len]
theorem enF_mem {α β : Type} {f : Nat → α → β} {P : β → Prop} : ∀ {xs : List α} {i : Nat}, (∀ j, ∀ x ∈ xs, P (f j x)) → ∀ y ∈ enF f i xs, P y
  | [], _, _, y, hy => by cases hy
  | x :: r, i, h, y, hy => by
    rcases List.mem_cons.mp hy with rfl | hy
    · exact h i x (by simp)
    · exact enF_mem (fun j z hz => h j z (by simp [hz])) y hy
theorem compL_en {α : Type} {turn : D → Mem → Res (Option D)} {M : Mem} {g : α → D} (f : Nat → α → D) : ∀ (xs : List α) (i : Nat) (acc : List D), (∀ j, ∀ x ∈ xs, turn (.tup [.int (j : Nat), g x]) M = .ok (some (f j x)) M) → acc.length + xs.length ≤ lim → compL turn (enumL (xs.map g) i) M acc = .ok (acc ++ enF f i xs) M
  | [], i, acc, _, _ => by simp [enumL, enF]
  | x :: r, i, acc, h, hl => by
    rw [List.map_cons, enumL, compL_cons, h i x (by simp), clK_some, if_pos (by simp at hl; omega), compL_en f r (i + 1) _ (fun j y hy => h j y (by simp [hy])) (by simp at hl ⊢; omega)]
    simp [enF]
/-- some lines muted -/
def mutL (A : List Nat) (i : Nat) (l : Ln) : Ln := if i ∈ A then ⟨l.a, l.b, l.c, []⟩ else l
theorem mut_ok {t u : List Nat} {A : List Nat} {ls : List Ln} (h : ∀ l ∈ ls, LnOk t u l) {i : Nat} : ∀ l ∈ enF (mutL A) i ls, LnOk t u l :=
  enF_mem fun j l hl => by
    have := h l hl
    unfold mutL
    split
    · exact ⟨this.a, this.b, this.c, by simp, by simp⟩
    · exact this
theorem enF_map {α β γ : Type} {f : Nat → α → β} {g : β → γ} : ∀ {xs : List α} {i : Nat}, enF (fun j x => g (f j x)) i xs = (enF f i xs).map g
  | [], _ => rfl
  | x :: r, i => by
    show g (f i x) :: enF _ (i + 1) r = g (f i x) :: (enF f (i + 1) r).map g
    rw [enF_map]
theorem enF_id {α : Type} {f : Nat → α → α} (h : ∀ j x, f j x = x) : ∀ {xs : List α} {i : Nat}, enF f i xs = xs
  | [], _ => rfl
  | x :: r, i => by
    show f i x :: enF f (i + 1) r = _
    rw [h, enF_id h]
theorem any_nats {x : Nat} {A : List Nat} : (A.map fun (a : Nat) => D.int a).any (fun z => D.eqv z (.int x)) = decide (x ∈ A) := by
  induction A with
  | nil => rfl
  | cons a r ih =>
    rw [List.map_cons, List.any_cons, ih, eqv_ii, Bool.eq_iff_iff]
    simp
    exact or_congr ⟨fun h => by omega, fun h => by omega⟩ Iff.rfl
theorem plA_nats {n : Nat} (A : List Nat) : D.plA n (A.map fun (a : Nat) => D.int a) = true := plA_all fun x hx => by
  obtain ⟨i, _, rfl⟩ := List.mem_map.mp hx
  simp
@[simp] theorem f_in_tn {x : Nat} {A : List Nat} {M} : f_in (.d (.int x)) (.d (.tup (A.map fun (a : Nat) => D.int a))) M = .ok (.d (.bl (decide (x ∈ A)))) M := by
  show (if (D.int x).pl 20 && D.plA 19 (A.map fun (a : Nat) => D.int a) then (Res.ok (VD.d (.bl ((A.map fun (a : Nat) => D.int a).any fun z => D.eqv z (.int x)))) M : Res VD) else .fail) = _
  rw [plA_nats, any_nats]
  simp
theorem f_in_ln {x : Nat} {A : List Nat} {M} : f_in (.d (.int x)) (.d (.lst (A.map fun (a : Nat) => D.int a))) M = .ok (.d (.bl (decide (x ∈ A)))) M := by
  rw [f_in_l, plA_nats, any_nats]
  simp
section
variable {t u : List Nat} {ls : List Ln} {M : Mem}
theorem rows_comp (ρ0 ρ2 ρ3 : Option VD) (A : List Nat) (hn : ls.length ≤ 8) : compL (cTurn [4, 5] (g_tup 2 (g_cons (g_name 4) (g_cons (g_name 5) g_nil))) e_yes (e_if (e_asB (e_op f_in (e_var 4) (e_var 1))) (e_tup (a_star (e_sl (e_var 5) o_none (o_some (e_c (.int 3)))) (a_cons (e_c (.str [])) a_nil))) (e_var 5)) [ρ0, some (VD.d (.tup (A.map fun (a : Nat) => D.int a))), ρ2, ρ3, none, none]) (enumL (ls.map Ln.d) 0) M [] = .ok ((enF (mutL A) 0 ls).map Ln.d) M := by
  have hlim := lim_eq
  rw [compL_en (fun j l => Ln.d (mutL A j l)) ls 0 [] (fun j l hl => by
    by_cases e : j ∈ A
    · simp (disch := first | (simp; done) | omega) [e, mutL, Ln.d, cut3, ifl]
    · simp (disch := first | (simp; done) | omega) [e, mutL]) (by simp; omega), enF_map]
  simp
theorem nums_loop {s : Sx} {ρ0 ρ1 ρ3 ρ4 ρ5 : Option VD} (hb : ρ0 = some (.d (bookD t u ls))) (A : List Nat) (rest : List D) (hA : ∀ a ∈ A, a < ls.length) (x2 : Option VD) : ∃ y2, forL (g_name 2) (s_if (e_notT (e_truth (e_call 3 m_is_number (a_cons (e_var 2) (a_cons (e_c (.int 0)) (a_cons (e_op f_sub (e_bi f_len (a_cons (e_fld (tb 0 2) (e_var 0)) a_nil)) (e_c (.int 1))) a_nil)))))) s s_skip) ((A.map fun (a : Nat) => D.int a) ++ rest) [ρ0, ρ1, x2, ρ3, ρ4, ρ5] M = forL (g_name 2) (s_if (e_notT (e_truth (e_call 3 m_is_number (a_cons (e_var 2) (a_cons (e_c (.int 0)) (a_cons (e_op f_sub (e_bi f_len (a_cons (e_fld (tb 0 2) (e_var 0)) a_nil)) (e_c (.int 1))) a_nil)))))) s s_skip) rest [ρ0, ρ1, y2, ρ3, ρ4, ρ5] M := by
  subst hb
  induction A generalizing x2 with
  | nil => exact ⟨x2, rfl⟩
  | cons a A ih =>
    have ha := hA a (by simp)
    obtain ⟨y2, e⟩ := ih (fun b hb => hA b (by simp [hb])) (some (.d (.int a)))
    refine ⟨y2, ?_⟩
    have g := is_number_i a 0 ((ls.length : Int) - 1) M
    rw [show (decide ((0 : Int) ≤ a) && decide ((a : Int) ≤ (ls.length : Int) - 1)) = true by simp; omega] at g
    rw [List.map_cons, List.cons_append, forL_cons]
    simp [g]
    exact e
theorem muted_ok (k : BkOk t u) (h : ∀ l ∈ ls, LnOk t u l) (hn : ls.length ≤ 8) {A : List Nat} (hA : ∀ a ∈ A, a < ls.length) (hM : Lst M) : m_Book_muted [.d (bookD t u ls), .d (.tup (A.map fun (a : Nat) => D.int a))] M = .ok (.d (bookD t u (enF (mutL A) 0 ls))) M := by
  have hlim := lim_eq
  obtain ⟨y2, e⟩ := nums_loop (M := M) (s := s_fail) (ρ1 := some (.d (.tup (A.map fun (a : Nat) => D.int a)))) (ρ3 := none) (ρ4 := none) (ρ5 := none) (rfl : some (VD.d (bookD t u ls)) = _) A [] hA none
  rw [List.append_nil] at e
  have mk := make_ok k (mut_ok (A := A) h (i := 0)) (by rw [enF_len]; exact hn) M
  have rc := fun ρ2 => rows_comp (M := M) (some (VD.d (bookD t u ls))) ρ2 none A hn
  simp at mk
  unfold m_Book_muted
  rw [fnM_eq]
  unfold b_Book_muted
  simp [e, rc, mk]
  exact trimL hM
theorem pmuted {A : List D} (hA : A.length ≤ 1000) {r : Res VD} (h : m_Book_muted [.d (bookD t u ls), .d (.tup A)] M = r) : p_Book_muted (.d (bookD t u ls) :: A.map .d) M = r := by
  have hlim := lim_eq
  unfold p_Book_muted arS
  rw [if_pos (by simp)]
  show (match dats (A.map VD.d) with | some rest => _ | none => _) = _
  rw [dats_map]
  dsimp only
  rw [if_pos (by omega)]
  exact h
theorem pmuted_x {A : List D} (hA : A.length ≤ 1000) {r : Res VD} (h : m_Book_muted_x [.d (bookD t u ls), .d (.tup A)] M = r) : p_Book_muted_x (.d (bookD t u ls) :: A.map .d) M = r := by
  have hlim := lim_eq
  unfold p_Book_muted_x arS
  rw [if_pos (by simp)]
  show (match dats (A.map VD.d) with | some rest => _ | none => _) = _
  rw [dats_map]
  dsimp only
  rw [if_pos (by omega)]
  exact h
theorem muted_bad {A : List Nat} (hA : ∀ a ∈ A, a < ls.length) {d : D} {rest : List D} (hl : A.length + rest.length ≤ 900) (hd : m_is_number [.d d, .d (.int 0), .d (.int ((ls.length : Int) - 1))] M = .ok (.d (.bl false)) M) : p_Book_muted_x (.d (bookD t u ls) :: ((A.map fun (a : Nat) => D.int a) ++ d :: rest).map .d) M = .exc 20 [.str ilC, d] M := by
  have hlim := lim_eq
  refine pmuted_x (by simp; omega) ?_
  obtain ⟨y2, e⟩ := nums_loop (M := M) (s := s_raise 20 [73, 110, 118, 97, 108, 105, 100, 76, 105, 110, 101] (a_cons (e_var 2) a_nil)) (ρ1 := some (.d (.tup ((A.map fun (a : Nat) => D.int a) ++ d :: rest)))) (ρ3 := none) (ρ4 := none) (ρ5 := none) (rfl : some (VD.d (bookD t u ls)) = _) A (d :: rest) hA none
  unfold m_Book_muted_x
  rw [fnX_eq]
  unfold b_Book_muted_x
  simp [e, forL_cons, hd]
end
theorem plA_words {n : Nat} {α : Type} {f : α → List Nat} (l : List α) : D.pl (n + 1) (.lst (l.map fun c => .str (f c))) = true := by
  rw [pl_lst]
  refine plA_all fun x hx => ?_
  obtain ⟨c, _, rfl⟩ := List.mem_map.mp hx
  simp
theorem num_bad {v l h : Int} (q : v < l ∨ h < v) (M : Mem) : m_is_number [.d (.int v), .d (.int l), .d (.int h)] M = .ok (.d (.bl false)) M := by
  rw [is_number_i]
  have : (decide (l ≤ v) && decide (v ≤ h)) = false := by
    rw [Bool.and_eq_false_iff]
    rcases q with q | q
    · exact .inl (by simp; omega)
    · exact .inr (by simp; omega)
  rw [this]
theorem law_true (ns : List Int) (h : ns.length ≤ 63) : ∃ M, m_law [.d (.scr ns)] [] = .ok (.d (.bl true)) M := by
  have hlim := lim_eq
  unfold m_law
  apply law_end
  unfold b_law
  obtain ⟨b, e0, hb⟩ := open_ok ns h
  obtain ⟨t, u, ls, b1, e1, hb1, k, hn, hl, -, -⟩ := some_book_ok hb (s0 := 3) (s1 := 2) (s2 := 5) (s3 := 3) (by omega) (by omega) (by omega) (by omega) Lst.nil
  simp at e1
  have h6 := k.t6
  have h4 := k.u4
  have hM : ∀ b, Lst [mo b] := fun b => Lst.cons Lst.nil
  have mu0 := fun b => pmuted (by simp) (muted_ok (A := []) k hl (by omega) (by simp) (hM b))
  simp [enF_id (f := mutL []) (fun j x => by simp [mutL])] at mu0
  have ln0 := fun M => lines_ok (t := t) (u := u) (ls := ls) M
  have eq0 := fun M => eq_ok (t := t) (u := u) (ls := ls) (t' := t) (u' := u) (ls' := ls) M
  rw [bookE_self] at eq0
  have sl := fun M => same_lns (ls := ls) (by omega) M
  simp (disch := first | (simp; done) | omega) [e0, e1, ifl, ifL, law_book_ok k hl (show ls.length ≤ 8 by omega) (hM b1), mu0, ln0, eq0, sl]
  refine Oc.seq' (fun ρ M => ∃ b x3 x6 x7 x8 x9 x10 x11 x12 x13 x14 x15 x16 x17 x18, BagOk b ∧ M = [mo b] ∧ ρ = [some (.d (.scr ns)), some (.adr 0), some (.d (specD t u ls)), x3, some (.d (bookD t u ls)), some (.d (.int ls.length)), x6, x7, x8, x9, x10, x11, x12, x13, x14, x15, x16, x17, x18]) ?_ ?_
  · by_cases h0 : ls.length = 0
    · obtain rfl : ls = [] := List.eq_nil_of_length_eq_zero h0
      simp
      exact ⟨b1, hb1, rfl⟩
    · have hp : 0 < ls.length := by omega
      obtain ⟨v0, b2, e2, hb2, hv0, hw0⟩ := draw_ok hb1 (many := ls.length) (by omega) (by omega) []
      obtain ⟨c0, rfl⟩ := Int.eq_ofNat_of_zero_le hv0
      obtain ⟨v1, b3, e3, hb3, hv1, hw1⟩ := draw_ok hb2 (many := ls.length) (by omega) (by omega) []
      obtain ⟨c1, rfl⟩ := Int.eq_ofNat_of_zero_le hv1
      obtain ⟨v2, b4, e4, hb4, hv2, hw2⟩ := draw_ok hb3 (many := ls.length) (by omega) (by omega) []
      obtain ⟨c2, rfl⟩ := Int.eq_ofNat_of_zero_le hv2
      have r3 : range 0 3 = [.int 0, .int 1, .int 2] := rfl
      have m1 := fun b => pmuted (by simp) (muted_ok (A := [c0]) k hl (by omega) (by simp; omega) (hM b))
      have m2 := fun b => pmuted (by simp) (muted_ok (A := [c0, c1]) k hl (by omega) (by simp; omega) (hM b))
      have m3 := fun b => pmuted (by simp) (muted_ok (A := [c0, c1, c2]) k hl (by omega) (by simp; omega) (hM b))
      simp only [List.map] at m1 m2 m3
      simp (disch := first | (simp; done) | omega) [hp, r3, compL_cons, e2, e3, e4, ifL, ifl, m1, m2, m3]
      refine Oc.forS (fun ρ M => ∃ x9 x10 x11 x12 x13 x14 x15 x16 x17 x18, M = [mo b4] ∧ ρ = [some (.d (.scr ns)), some (.adr 0), some (.d (specD t u ls)), none, some (.d (bookD t u ls)), some (.d (.int ls.length)), some (.d (.lst [.int c0, .int c1, .int c2])), some (.d (.lst [bookD t u (enF (mutL [c0]) 0 ls), bookD t u (enF (mutL [c0, c1]) 0 ls), bookD t u (enF (mutL [c0, c1, c2]) 0 ls)])), none, x9, x10, x11, x12, x13, x14, x15, x16, x17, x18]) ⟨_, _, _, _, _, _, _, _, _, _, rfl, rfl⟩ ?_ ?_
      · rintro x hx ρ M ⟨x9, x10, x11, x12, x13, x14, x15, x16, x17, x18, rfl, rfl⟩
        obtain ⟨n, A, rfl, hcut⟩ : ∃ (n : Nat) (A : List Nat), x = .tup [.int n, bookD t u (enF (mutL A) 0 ls)] ∧ cut [D.int c0, .int c1, .int c2] none (some ((n : Int) + 1)) = A.map fun (a : Nat) => D.int a := by
          simp [enumL] at hx
          rcases hx with rfl | rfl | rfl
          · exact ⟨0, [c0], rfl, cut_take (n := 1) (by simp)⟩
          · exact ⟨1, [c0, c1], rfl, cut_take (n := 2) (by simp)⟩
          · exact ⟨2, [c0, c1, c2], rfl, cut_take (n := 3) (by simp)⟩
        have hmo := mut_ok (A := A) hl (i := 0)
        have hml : (enF (mutL A) 0 ls).length ≤ 8 := by rw [enF_len]; omega
        have rc := fun (y11 y12 y13 y14 y15 : Option VD) => compL_en (turn := cTurn [16, 17] (g_tup 2 (g_cons (g_name 16) (g_cons (g_name 17) g_nil))) e_yes (e_if (e_asB (e_op f_in (e_var 16) (e_sl (e_var 6) o_none (o_some (e_op f_add (e_var 9) (e_c (D.int 1))))))) (e_tup (a_cons (e_op f_ix (e_var 17) (e_c (D.int 0))) (a_cons (e_op f_ix (e_var 17) (e_c (D.int 1))) (a_cons (e_op f_ix (e_var 17) (e_c (D.int 2))) (a_cons (e_c (D.str [])) a_nil))))) (e_var 17)) [some (.d (.scr ns)), some (.adr 0), some (.d (specD t u ls)), none, some (.d (bookD t u ls)), some (.d (.int ls.length)), some (.d (.lst [.int c0, .int c1, .int c2])), some (.d (.lst [bookD t u (enF (mutL [c0]) 0 ls), bookD t u (enF (mutL [c0, c1]) 0 ls), bookD t u (enF (mutL [c0, c1, c2]) 0 ls)])), none, some (.d (.int n)), some (.d (bookD t u (enF (mutL A) 0 ls))), y11, y12, y13, y14, y15, x16, x17, x18]) (M := [mo b4]) (g := Ln.d) (fun j l => Ln.d (mutL A j l)) ls 0 [] (fun j l hl => by
          have pn := plA_nats (n := 19) A
          have an : (A.any ((fun z => D.eqv z (.int j)) ∘ fun (a : Nat) => D.int a)) = decide (j ∈ A) := by
            rw [← List.any_map]
            exact any_nats
          by_cases e : j ∈ A
          · simp (disch := first | (simp; done) | omega) [e, mutL, Ln.d, hcut, pn, an, ifl]
          · simp (disch := first | (simp; done) | omega) [e, mutL, hcut, pn, an]) (by simp; omega)
        simp only [enF_map] at rc
        generalize hL : enF (mutL A) 0 ls = L at hmo hml rc
        have ln1 := fun M => lines_ok (t := t) (u := u) (ls := L) M
        have eq1 := fun M => eq_ok (t := t) (u := u) (ls := L) (t' := t) (u' := u) (ls' := L) M
        rw [bookE_self] at eq1
        have sm := fun M => same_ok 7 (specD t u L) M (pl_spec (n := 4)) (by omega) (.lst (by simp; omega) fun x hx => by
          simp at hx
          rcases hx with rfl | rfl | rfl
          · exact .str
          · exact .str
          · exact Sz_lns (by omega))
        have hsp : D.lst [.str t, .str u, .lst (L.map Ln.d)] = specD t u L := rfl
        simp (disch := first | (simp; done) | omega) [ifl, ifL, rc, ln1, eq1, hsp, sm, law_book_ok k hmo hml (hM b4), law_all_gaps_ok (t := t) (by omega)]
        refine Oc.for (fun ρ M => ∃ x13 x14 x15 x16 x17 x18, M = [mo b4] ∧ ρ = [some (.d (.scr ns)), some (.adr 0), some (.d (specD t u ls)), none, some (.d (bookD t u ls)), some (.d (.int ls.length)), some (.d (.lst [.int c0, .int c1, .int c2])), some (.d (.lst [bookD t u (enF (mutL [c0]) 0 ls), bookD t u (enF (mutL [c0, c1]) 0 ls), bookD t u (enF (mutL [c0, c1, c2]) 0 ls)])), none, some (.d (.int n)), some (.d (bookD t u L)), some (.d (.lst (L.map Ln.d))), some (.d (specD t u L)), x13, x14, x15, x16, x17, x18]) _ ?_ ?_ _ _ ⟨_, _, _, _, _, _, rfl, rfl⟩
        · rintro x hx ρ M ⟨x13, x14, x15, x16, x17, x18, rfl, rfl⟩
          obtain ⟨g, hg, rfl⟩ := List.mem_map.mp hx
          have w1 := fun (y15 y18 : Option VD) => compL_mapA (turn := cTurn [18] (g_name 18) e_yes (e_meth 0 (ar 3 m_Book_word) (e_var 10) (a_cons (e_var 13) (a_cons (e_var 18) a_nil))) ([some (.d (.scr ns)), some (.adr 0), some (.d (specD t u ls)), none, some (.d (bookD t u ls)), some (.d (.int ls.length)), some (.d (.lst [.int c0, .int c1, .int c2])), some (.d (.lst [bookD t u (enF (mutL [c0]) 0 ls), bookD t u (enF (mutL [c0, c1]) 0 ls), bookD t u (enF (mutL [c0, c1, c2]) 0 ls)])), none, some (.d (.int n)), some (.d (bookD t u L)), some (.d (.lst (L.map Ln.d))), some (.d (specD t u L)), some (.d (.str [g.1, g.2])), x14, y15, x16, x17, y18])) (M := [mo b4]) (fun c => D.str [c]) (fun c => D.str (wordQ L ⟨g.1, g.2, c⟩)) u [] (fun c hc => by
            have := word_ok (ls := L) (M := [mo b4]) k (qs_ok (qs_mem hg hc))
            dsimp only at this
            simp [this]) (by simp; omega)
          have w2 := fun (y15 y18 : Option VD) => compL_mapA (turn := cTurn [18] (g_name 18) e_yes (e_call 3 m__law_word (a_cons (e_var 12) (a_cons (e_var 13) (a_cons (e_var 18) a_nil)))) ([some (.d (.scr ns)), some (.adr 0), some (.d (specD t u ls)), none, some (.d (bookD t u ls)), some (.d (.int ls.length)), some (.d (.lst [.int c0, .int c1, .int c2])), some (.d (.lst [bookD t u (enF (mutL [c0]) 0 ls), bookD t u (enF (mutL [c0, c1]) 0 ls), bookD t u (enF (mutL [c0, c1, c2]) 0 ls)])), none, some (.d (.int n)), some (.d (bookD t u L)), some (.d (.lst (L.map Ln.d))), some (.d (specD t u L)), some (.d (.str [g.1, g.2])), x14, y15, x16, x17, y18])) (M := [mo b4]) (fun c => D.str [c]) (fun c => D.str (wordQ L ⟨g.1, g.2, c⟩)) u [] (fun c hc => by
            have := law_word_ok (t := t) (u := u) (ls := L) (q := ⟨g.1, g.2, c⟩) (M := [mo b4])
            dsimp only at this
            simp [this]) (by simp; omega)
          have sm2 := fun M => same_ok 7 (.lst (u.map fun c => D.str (wordQ L ⟨g.1, g.2, c⟩))) M (plA_words _) (by omega) (.lst (by simp; omega) fun x hx => by
            obtain ⟨c, _, rfl⟩ := List.mem_map.mp hx
            exact .str)
          simp at w1 w2 sm2
          simp [gapD, chars, w1, w2, sm2]
        · rintro ρ M ⟨x13, x14, x15, x16, x17, x18, rfl, rfl⟩
          exact ⟨rfl, _, _, _, _, _, _, _, _, _, _, rfl⟩
      · rintro ρ M ⟨x9, x10, x11, x12, x13, x14, x15, x16, x17, x18, rfl, rfl⟩
        obtain ⟨odd, b5, e5, hb5, hod⟩ := of_ok hb4 (ds := [.int (-1), .int ls.length, .int ((ls.length : Int) + 9), .non, .bl true, .bl false, .str [48], .lst [.int 0], .tup [.int 0], .str []]) (by simp) (by simp) []
        have hodd : (∀ M, m_is_number [.d odd, .d (.int 0), .d (.int ((ls.length : Int) - 1))] M = .ok (.d (.bl false)) M) ∧ D.pl 5 odd = true ∧ Sz odd := by
          simp at hod
          rcases hod with rfl | rfl | rfl | rfl | rfl | rfl | rfl | rfl | rfl | rfl
          · exact ⟨num_bad (.inl (by omega)), by simp, .int⟩
          · exact ⟨num_bad (.inr (by omega)), by simp, .int⟩
          · exact ⟨num_bad (.inr (by omega)), by simp, .int⟩
          · exact ⟨is_number_n .non _ _, by simp, .non⟩
          · exact ⟨is_number_n .bl _ _, by simp, .bl⟩
          · exact ⟨is_number_n .bl _ _, by simp, .bl⟩
          · exact ⟨is_number_n .str _ _, by simp, .str⟩
          · exact ⟨is_number_n .lst _ _, by simp, sz_one .int⟩
          · exact ⟨is_number_n .tup _ _, by simp, sz_onet .int⟩
          · exact ⟨is_number_n .str _ _, by simp, .str⟩
        have z1 := fun M => muted_bad (t := t) (u := u) (ls := ls) (A := []) (rest := []) (by simp) (by simp) (hodd.1 M)
        have z2 := fun M => muted_bad (t := t) (u := u) (ls := ls) (A := [c0]) (rest := []) (by simp; omega) (by simp) (hodd.1 M)
        have z3 := fun M => muted_bad (t := t) (u := u) (ls := ls) (A := []) (rest := [.non, .int c1]) (by simp) (by simp) (hodd.1 M)
        simp only [List.map, List.nil_append, List.cons_append] at z1 z2 z3
        have tr1 := fun (y9 y10 y11 y12 y13 y14 y15 y16 y17 y18 : Option VD) => tries_ok (lm := lmT) (ρ := [some (.d (.scr ns)), none, some (.d (specD t u ls)), some (.d (.lst [.clo 0, .clo 1, .clo 2])), some (.d (bookD t u ls)), some (.d (.int ls.length)), some (.d (.lst [.int c0, .int c1, .int c2])), some (.d (.lst [bookD t u (enF (mutL [c0]) 0 ls), bookD t u (enF (mutL [c0, c1]) 0 ls), bookD t u (enF (mutL [c0, c1, c2]) 0 ls)])), some (.d odd), y9, y10, y11, y12, y13, y14, y15, y16, y17, y18]) (nm := tabN) (isE := isE) (M := [mo b5]) (ks := [(0, .tup [.str ilC, odd]), (1, .tup [.str ilC, odd]), (2, .tup [.str ilC, odd])]) (fun p hp => by
          simp at hp
          rcases hp with rfl | rfl | rfl
          · exact try_err (m := lm_0) (c := 20) rfl (by unfold lm_0; simp [z1]) rfl rfl rfl rfl (by decide)
          · exact try_err (m := lm_1) (c := 20) rfl (by unfold lm_1; simp [z2]) rfl rfl rfl rfl (by decide)
          · exact try_err (m := lm_2) (c := 20) rfl (by unfold lm_2; simp [z3]) rfl rfl rfl rfl (by decide)) (by simp)
        dsimp only [List.map] at tr1
        have sm3 := fun M => same_ok 7 (.lst [.tup [.str ilC, odd], .tup [.str ilC, odd], .tup [.str ilC, odd]]) M (by simp [hodd.2.1]) (by omega) (.lst (by simp; omega) fun x hx => by
          simp at hx
          subst hx
          exact tw_sz hodd.2.2)
        simp at sm3
        simp (disch := first | (simp; done) | omega) [ifl, ifL, e5, tr1, sm3, show (3 : Nat) ≤ lim by omega]
        exact ⟨_, hb5, rfl⟩
  · rintro ρ M ⟨b, x3, x6, x7, x8, x9, x10, x11, x12, x13, x14, x15, x16, x17, x18, hb, rfl, rfl⟩
    have z3 := fun M => muted_bad (M := M) (t := t) (u := u) (ls := ls) (A := []) (rest := []) (by simp) (by simp) (num_bad (v := (ls.length : Int)) (.inr (by omega)) M)
    have z4 := fun M => muted_bad (M := M) (t := t) (u := u) (ls := ls) (A := []) (rest := [.int ls.length]) (by simp) (by simp) (num_bad (v := -1) (.inl (by omega)) M)
    simp only [List.map, List.nil_append] at z3 z4
    have tr1 := fun (y6 y7 y8 y9 y10 y11 y12 y13 y14 y15 y16 y17 y18 : Option VD) => tries_ok (lm := lmT) (ρ := [some (.d (.scr ns)), none, some (.d (specD t u ls)), some (.d (.lst [.clo 3, .clo 4])), some (.d (bookD t u ls)), some (.d (.int ls.length)), y6, y7, y8, y9, y10, y11, y12, y13, y14, y15, y16, y17, y18]) (nm := tabN) (isE := isE) (M := [mo b]) (ks := [(3, .tup [.str ilC, .int ls.length]), (4, .tup [.str ilC, .int (-1)])]) (fun p hp => by
      simp at hp
      rcases hp with rfl | rfl
      · exact try_err (m := lm_3) (c := 20) rfl (by unfold lm_3; simp [z3]) rfl rfl rfl rfl (by decide)
      · exact try_err (m := lm_4) (c := 20) rfl (by unfold lm_4; simp [z4]) rfl rfl rfl rfl (by decide)) (by simp)
    dsimp only [List.map] at tr1
    have sm3 := fun M => same_ok 7 (.lst [.tup [.str ilC, .int ls.length], .tup [.str ilC, .int (-1)]]) M (by simp) (by omega) (.lst (by simp; omega) fun x hx => by
      simp at hx
      rcases hx with rfl | rfl
      · exact tw_sz .int
      · exact tw_sz .int)
    simp at sm3
    simp (disch := first | (simp; done) | omega) [ifl, ifL, tr1, sm3, ln0, sl]
end G


namespace G
open PySem PySem.Spec PyProof.Rows L2
def top (i : Nat) : Stmt := PySem.Challenge.pw_gapborn_k08_muted_lines.main.body.getD i (.Pass ⟨0, 0, 0, 0⟩)
structure Txt (K : PySem.W.Frag) (mg : Str → Option Value) (C : Cf) : Prop where
  b_int : mg "int" = none
  b_list : mg "list" = none
  b_len : mg "len" = none
  b_abs : mg "abs" = none
  b_range : mg "range" = none
  b_isinstance : mg "isinstance" = none
  b_str : mg "str" = none
  b_all : mg "all" = none
  b_sorted : mg "sorted" = none
  b_set : mg "set" = none
  b_tuple : mg "tuple" = none
  b_enumerate : mg "enumerate" = none
  b_zip : mg "zip" = none
  b_bool : mg "bool" = none
  b_super : mg "super" = none
  g_LOWER : ∃ t, mg "LOWER" = some (.str "abcdefghijklmnopqrstuvwxyz" t)
  g_UPPER : ∃ t, mg "UPPER" = some (.str "ABCDEFGHIJKLMNOPQRSTUVWXYZ" t)
  g_MOST_WORD : ∃ t, mg "MOST_WORD" = some (.int 3 t)
  k_Book : mg "Book" = some (.ref (C.ca 0))
  n_Book : (C.nm 0).length = 3
  f_Book_kinds : Fld C "kinds" 0 0
  f_Book_comers : Fld C "comers" 0 1
  f_Book_own_lines : Fld C "own_lines" 0 2
  v_Book_MOST : ∃ mc u, ClX.CRead K (C.ca 0) mc ∧ ClX.CVal K (C.ca 0) mc "MOST" (.int 8) u
  nf_Book : NotF K (C.ca 0)
  ne_Book : NeOk K (C.ca 0)
  is_Book : IsC K (C.ca 0)
  hn : ∀ c, (C.nm c).length < 1000
abbrev s__law_open : Stmt := top 30
abbrev N__law_open : List Str := ["_law_script", "_law_mixed", "_law_cell"]
theorem sc__law_open : FnScope N__law_open ["_law_script"] (defScope s__law_open) := ⟨rfl, rfl, rfl, by decide +kernel, rfl, by decide +kernel, by decide +kernel⟩
abbrev s__law_draw : Stmt := top 31
abbrev N__law_draw : List Str := ["_law_bag", "_law_many", "_law_twice", "_law_cell", "_law_digit"]
theorem sc__law_draw : FnScope N__law_draw ["_law_bag", "_law_many"] (defScope s__law_draw) := ⟨rfl, rfl, rfl, by decide +kernel, rfl, by decide +kernel, by decide +kernel⟩
abbrev s__law_letters : Stmt := top 37
abbrev N__law_letters : List Str := ["_law_bag", "_law_letters_here", "_law_many", "_law_k", "_law_found", "_law_low", "_law_at"]
theorem sc__law_letters : FnScope N__law_letters ["_law_bag", "_law_letters_here", "_law_many"] (defScope s__law_letters) := ⟨rfl, rfl, rfl, by decide +kernel, rfl, by decide +kernel, by decide +kernel⟩
abbrev s__law_some_comers : Stmt := top 39
abbrev N__law_some_comers : List Str := ["_law_bag", "_law_most"]
theorem sc__law_some_comers : FnScope N__law_some_comers ["_law_bag", "_law_most"] (defScope s__law_some_comers) := ⟨rfl, rfl, rfl, by decide +kernel, rfl, by decide +kernel, by decide +kernel⟩
abbrev s__law_some_kinds : Stmt := top 38
abbrev N__law_some_kinds : List Str := ["_law_bag", "_law_most"]
theorem sc__law_some_kinds : FnScope N__law_some_kinds ["_law_bag", "_law_most"] (defScope s__law_some_kinds) := ⟨rfl, rfl, rfl, by decide +kernel, rfl, by decide +kernel, by decide +kernel⟩
abbrev s__law_part : Stmt := top 40
abbrev N__law_part : List Str := ["_law_bag", "_law_letters_here", "_law_chosen", "_law_letter"]
theorem sc__law_part : FnScope N__law_part ["_law_bag", "_law_letters_here"] (defScope s__law_part) := ⟨rfl, rfl, rfl, by decide +kernel, rfl, by decide +kernel, by decide +kernel⟩
abbrev s__law_of : Stmt := top 32
abbrev N__law_of : List Str := ["_law_bag", "_law_things"]
theorem sc__law_of : FnScope N__law_of ["_law_bag", "_law_things"] (defScope s__law_of) := ⟨rfl, rfl, rfl, by decide +kernel, rfl, by decide +kernel, by decide +kernel⟩
abbrev s__law_string : Stmt := top 41
abbrev N__law_string : List Str := ["_law_bag", "_law_kinds", "_law_most", "_law_k"]
theorem sc__law_string : FnScope N__law_string ["_law_bag", "_law_kinds", "_law_most"] (defScope s__law_string) := ⟨rfl, rfl, rfl, by decide +kernel, rfl, by decide +kernel, by decide +kernel⟩
abbrev s__law_line : Stmt := top 42
abbrev N__law_line : List Str := ["_law_bag", "_law_kinds", "_law_comers", "_law_most", "_law_left", "_law_mid", "_law_right"]
theorem sc__law_line : FnScope N__law_line ["_law_bag", "_law_kinds", "_law_comers", "_law_most"] (defScope s__law_line) := ⟨rfl, rfl, rfl, by decide +kernel, rfl, by decide +kernel, by decide +kernel⟩
abbrev s__law_some_book : Stmt := top 43
abbrev N__law_some_book : List Str := ["_law_bag", "_law_sizes", "_law_lines", "_law_kinds", "_law_comers", "_law_k"]
theorem sc__law_some_book : FnScope N__law_some_book ["_law_bag", "_law_sizes"] (defScope s__law_some_book) := ⟨rfl, rfl, rfl, by decide +kernel, rfl, by decide +kernel, by decide +kernel⟩
abbrev s_is_rising : Stmt := top 16
abbrev N_is_rising : List Str := ["value", "letters", "most", "letter"]
theorem sc_is_rising : FnScope N_is_rising ["value", "letters", "most"] (defScope s_is_rising) := ⟨rfl, rfl, rfl, by decide +kernel, rfl, by decide +kernel, by decide +kernel⟩
abbrev s_is_kinds : Stmt := top 17
abbrev N_is_kinds : List Str := ["value"]
theorem sc_is_kinds : FnScope N_is_kinds ["value"] (defScope s_is_kinds) := ⟨rfl, rfl, rfl, by decide +kernel, rfl, by decide +kernel, by decide +kernel⟩
abbrev s_is_comers : Stmt := top 18
abbrev N_is_comers : List Str := ["value"]
theorem sc_is_comers : FnScope N_is_comers ["value"] (defScope s_is_comers) := ⟨rfl, rfl, rfl, by decide +kernel, rfl, by decide +kernel, by decide +kernel⟩
abbrev s_line_of : Stmt := top 28
abbrev N_line_of : List Str := ["row", "words"]
theorem sc_line_of : FnScope N_line_of ["row"] (defScope s_line_of) := ⟨rfl, rfl, rfl, by decide +kernel, rfl, by decide +kernel, by decide +kernel⟩
abbrev s_is_part : Stmt := top 25
abbrev N_is_part : List Str := ["value", "letters"]
theorem sc_is_part : FnScope N_is_part ["value", "letters"] (defScope s_is_part) := ⟨rfl, rfl, rfl, by decide +kernel, rfl, by decide +kernel, by decide +kernel⟩
abbrev s_is_string : Stmt := top 20
abbrev N_is_string : List Str := ["value", "kinds", "letter"]
theorem sc_is_string : FnScope N_is_string ["value", "kinds"] (defScope s_is_string) := ⟨rfl, rfl, rfl, by decide +kernel, rfl, by decide +kernel, by decide +kernel⟩
abbrev s_is_word : Stmt := top 21
abbrev N_is_word : List Str := ["value", "kinds"]
theorem sc_is_word : FnScope N_is_word ["value", "kinds"] (defScope s_is_word) := ⟨rfl, rfl, rfl, by decide +kernel, rfl, by decide +kernel, by decide +kernel⟩
abbrev s_is_line : Stmt := top 26
abbrev N_is_line : List Str := ["value", "kinds", "comers"]
theorem sc_is_line : FnScope N_is_line ["value", "kinds", "comers"] (defScope s_is_line) := ⟨rfl, rfl, rfl, by decide +kernel, rfl, by decide +kernel, by decide +kernel⟩
abbrev s_Book___init__ : Stmt := inClass (top 24) 1
abbrev N_Book___init__ : List Str := ["self", "kinds", "comers", "lines", "at", "line"]
theorem sc_Book___init__ : FnScope N_Book___init__ ["self", "kinds", "comers", "lines"] (defScope s_Book___init__) := ⟨rfl, rfl, rfl, by decide +kernel, rfl, by decide +kernel, by decide +kernel⟩
abbrev s_Book_read : Stmt := inClass (top 24) 13
abbrev N_Book_read : List Str := ["text", "rows", "head", "lines", "at", "row", "line"]
theorem sc_Book_read : FnScope N_Book_read ["text"] (defScope s_Book_read) := ⟨rfl, rfl, rfl, by decide +kernel, rfl, by decide +kernel, by decide +kernel⟩
abbrev s__law_line_text : Stmt := top 44
abbrev N__law_line_text : List Str := ["_law_row"]
theorem sc__law_line_text : FnScope N__law_line_text ["_law_row"] (defScope s__law_line_text) := ⟨rfl, rfl, rfl, by decide +kernel, rfl, by decide +kernel, by decide +kernel⟩
abbrev s__law_book_text : Stmt := top 45
abbrev N__law_book_text : List Str := ["_law_spec", "_law_row"]
theorem sc__law_book_text : FnScope N__law_book_text ["_law_spec"] (defScope s__law_book_text) := ⟨rfl, rfl, rfl, by decide +kernel, rfl, by decide +kernel, by decide +kernel⟩
abbrev s__law_book : Stmt := top 46
abbrev N__law_book : List Str := ["_law_spec"]
theorem sc__law_book : FnScope N__law_book ["_law_spec"] (defScope s__law_book) := ⟨rfl, rfl, rfl, by decide +kernel, rfl, by decide +kernel, by decide +kernel⟩
abbrev s__law_same : Stmt := top 33
abbrev N__law_same : List Str := ["_law_found", "_law_due", "_law_a", "_law_b"]
theorem sc__law_same : FnScope N__law_same ["_law_found", "_law_due"] (defScope s__law_same) := ⟨rfl, rfl, rfl, by decide +kernel, rfl, by decide +kernel, by decide +kernel⟩
abbrev s_Book_lines : Stmt := inClass (top 24) 2
abbrev N_Book_lines : List Str := ["self"]
theorem sc_Book_lines : FnScope N_Book_lines ["self"] (defScope s_Book_lines) := ⟨rfl, rfl, rfl, by decide +kernel, rfl, by decide +kernel, by decide +kernel⟩
abbrev s_is_number : Stmt := top 15
abbrev N_is_number : List Str := ["value", "least", "most"]
theorem sc_is_number : FnScope N_is_number ["value", "least", "most"] (defScope s_is_number) := ⟨rfl, rfl, rfl, by decide +kernel, rfl, by decide +kernel, by decide +kernel⟩
abbrev s_Book_muted : Stmt := inClass (top 24) 7
abbrev N_Book_muted : List Str := ["self", "at", "value", "rows", "index", "line"]
theorem sc_Book_muted : FnScope N_Book_muted ["self", "at"] (defScope s_Book_muted) := ⟨rfl, rfl, rfl, by decide +kernel, rfl, by decide +kernel, by decide +kernel⟩
abbrev s_Book___eq__ : Stmt := inClass (top 24) 9
abbrev N_Book___eq__ : List Str := ["self", "other"]
theorem sc_Book___eq__ : FnScope N_Book___eq__ ["self", "other"] (defScope s_Book___eq__) := ⟨rfl, rfl, rfl, by decide +kernel, rfl, by decide +kernel, by decide +kernel⟩
abbrev s__law_all_gaps : Stmt := top 50
abbrev N__law_all_gaps : List Str := ["_law_kinds", "_law_found", "_law_left", "_law_right"]
theorem sc__law_all_gaps : FnScope N__law_all_gaps ["_law_kinds"] (defScope s__law_all_gaps) := ⟨rfl, rfl, rfl, by decide +kernel, rfl, by decide +kernel, by decide +kernel⟩
abbrev s_is_gap : Stmt := top 22
abbrev N_is_gap : List Str := ["value", "kinds"]
theorem sc_is_gap : FnScope N_is_gap ["value", "kinds"] (defScope s_is_gap) := ⟨rfl, rfl, rfl, by decide +kernel, rfl, by decide +kernel, by decide +kernel⟩
abbrev s_is_one : Stmt := top 19
abbrev N_is_one : List Str := ["value", "letters"]
theorem sc_is_one : FnScope N_is_one ["value", "letters"] (defScope s_is_one) := ⟨rfl, rfl, rfl, by decide +kernel, rfl, by decide +kernel, by decide +kernel⟩
abbrev s_takes : Stmt := top 27
abbrev N_takes : List Str := ["part", "letter"]
theorem sc_takes : FnScope N_takes ["part", "letter"] (defScope s_takes) := ⟨rfl, rfl, rfl, by decide +kernel, rfl, by decide +kernel, by decide +kernel⟩
abbrev s_Book_line_at : Stmt := inClass (top 24) 3
abbrev N_Book_line_at : List Str := ["self", "gap", "comer", "at", "line"]
theorem sc_Book_line_at : FnScope N_Book_line_at ["self", "gap", "comer"] (defScope s_Book_line_at) := ⟨rfl, rfl, rfl, by decide +kernel, rfl, by decide +kernel, by decide +kernel⟩
abbrev s_Book_word : Stmt := inClass (top 24) 4
abbrev N_Book_word : List Str := ["self", "gap", "comer", "at"]
theorem sc_Book_word : FnScope N_Book_word ["self", "gap", "comer"] (defScope s_Book_word) := ⟨rfl, rfl, rfl, by decide +kernel, rfl, by decide +kernel, by decide +kernel⟩
abbrev s__law_fits : Stmt := top 47
abbrev N__law_fits : List Str := ["_law_part_here", "_law_letter"]
theorem sc__law_fits : FnScope N__law_fits ["_law_part_here", "_law_letter"] (defScope s__law_fits) := ⟨rfl, rfl, rfl, by decide +kernel, rfl, by decide +kernel, by decide +kernel⟩
abbrev s__law_line_at : Stmt := top 48
abbrev N__law_line_at : List Str := ["_law_spec", "_law_gap", "_law_comer", "_law_at", "_law_line_here", "_law_fits_here"]
theorem sc__law_line_at : FnScope N__law_line_at ["_law_spec", "_law_gap", "_law_comer"] (defScope s__law_line_at) := ⟨rfl, rfl, rfl, by decide +kernel, rfl, by decide +kernel, by decide +kernel⟩
abbrev s__law_word : Stmt := top 49
abbrev N__law_word : List Str := ["_law_spec", "_law_gap", "_law_comer", "_law_at"]
theorem sc__law_word : FnScope N__law_word ["_law_spec", "_law_gap", "_law_comer"] (defScope s__law_word) := ⟨rfl, rfl, rfl, by decide +kernel, rfl, by decide +kernel, by decide +kernel⟩
abbrev s__law_field : Stmt := top 34
abbrev N__law_field : List Str := ["_law_e"]
theorem sc__law_field : FnScope N__law_field ["_law_e"] (defScope s__law_field) := ⟨rfl, rfl, rfl, by decide +kernel, rfl, by decide +kernel, by decide +kernel⟩
abbrev s__law_try : Stmt := top 35
abbrev N__law_try : List Str := ["_law_ask", "_law_e"]
theorem sc__law_try : FnScope N__law_try ["_law_ask"] (defScope s__law_try) := ⟨rfl, rfl, rfl, by decide +kernel, rfl, by decide +kernel, by decide +kernel⟩
abbrev s__law_tries : Stmt := top 36
abbrev N__law_tries : List Str := ["_law_asks", "_law_ask"]
theorem sc__law_tries : FnScope N__law_tries ["_law_asks"] (defScope s__law_tries) := ⟨rfl, rfl, rfl, by decide +kernel, rfl, by decide +kernel, by decide +kernel⟩
abbrev s_Book___init___x : Stmt := inClass (top 24) 1
abbrev N_Book___init___x : List Str := ["self", "kinds", "comers", "lines", "at", "line"]
theorem sc_Book___init___x : FnScope N_Book___init___x ["self", "kinds", "comers", "lines"] (defScope s_Book___init___x) := ⟨rfl, rfl, rfl, by decide +kernel, rfl, by decide +kernel, by decide +kernel⟩
abbrev s_Book_muted_x : Stmt := inClass (top 24) 7
abbrev N_Book_muted_x : List Str := ["self", "at", "value", "rows", "index", "line"]
theorem sc_Book_muted_x : FnScope N_Book_muted_x ["self", "at"] (defScope s_Book_muted_x) := ⟨rfl, rfl, rfl, by decide +kernel, rfl, by decide +kernel, by decide +kernel⟩
abbrev s_law : Stmt := top 51
abbrev N_law : List Str := ["_law_script", "_law_bag", "_law_spec", "_law_asks", "_law_book_here", "_law_many", "_law_chosen", "_law_lots", "_law_odd", "_law_size", "_law_found", "_law_rows", "_law_due", "_law_gap", "_law_k", "_law_words", "_law_at", "_law_row", "_law_comer"]
theorem sc_law : FnScope N_law ["_law_script"] (defScope s_law) := ⟨rfl, rfl, rfl, by decide +kernel, rfl, by decide +kernel, by decide +kernel⟩
section
variable {P : Program} {w : World} {K : PySem.W.Frag} {mg : Str → Option Value} {base : Heap} {C : Cf} {f : Addr} {fd : FuncData}
theorem ok__law_open (hK : C.K = K) (T : Txt K mg C)  (F : Fun K "_law_open" "_law_open" s__law_open f fd) : FnOk P w K mg base CX0 1 f fd ["_law_script"] (spD C 1 m__law_open) := fn_mk (k := 0) F sc__law_open hK rfl fun cdv A outer s H E c =>
    (xss_cons (xs_set (i := 1) c x_int)
    (xss_cons (xs_for c (xi_any c.K (x_sl c.K (x_var 0) xo_none (xo_some x_int))) (xg_name (i := 2) c.nd) (xss_one (xs_set (i := 1) c (x_mod (xb_int c T.b_int (xa_cons (x_add c.K (x_add c.K (x_mul (x_var 1) x_int) (x_mul (x_mod (xb_int c T.b_int (xa_cons (x_var 2) xa_nil)) x_int) x_int)) x_int) xa_nil)) x_int))))
    (xss_one (xs_ret (x_lstO (xa_cons (xb_list c T.b_list (xa_cons (x_sl c.K (x_var 0) xo_none (xo_some x_int)) xa_nil)) (xa_cons x_int (xa_cons x_int (xa_cons (x_var 1) (xa_cons x_int xa_nil))))))))))
theorem ok__law_draw (hK : C.K = K) (T : Txt K mg C)  (F : Fun K "_law_draw" "_law_draw" s__law_draw f fd) : FnOk P w K mg base CX0 1 f fd ["_law_bag", "_law_many"] (spD C 2 m__law_draw) := fn_mk (k := 0) F sc__law_draw hK rfl fun cdv A outer s H E c =>
    (xss_cons (xs_seti (x_add c.K (x_ix c.K (x_var 0) x_int) x_int) (x_var 0) x_int)
    (xss_cons (xs_if (t_w (w_and (t_eq c (x_ix c.K (x_var 0) x_int) x_int) (w_and1 (t_lt (x_ix c.K (x_var 0) x_int) (xb_len c T.b_len (xa_cons (x_ix c.K (x_var 0) x_int) xa_nil)))))) (xss_cons (xs_set (i := 3) c (x_ix c.K (x_ix c.K (x_var 0) x_int) (x_ix c.K (x_var 0) x_int)))
    (xss_cons (xs_seti (x_add c.K (x_ix c.K (x_var 0) x_int) x_int) (x_var 0) x_int)
    (xss_one (xs_if (t_ge (xb_abs c T.b_abs (xa_cons (x_var 3) xa_nil)) (x_pow x_int x_int)) (xss_one (xs_seti (xb_abs c T.b_abs (xa_cons (x_var 3) xa_nil)) (x_var 0) x_int)) (xss_one (xs_seti (x_mod (xb_int c T.b_int (xa_cons (x_add c.K (x_add c.K (x_mul (x_ix c.K (x_var 0) x_int) x_int) (x_mul (x_mod (xb_int c T.b_int (xa_cons (x_var 3) xa_nil)) x_int) x_int)) x_int) xa_nil)) x_int) (x_var 0) x_int)))))) xss_nil)
    (xss_cons (xs_if (t_gt (x_ix c.K (x_var 0) x_int) x_int) (xss_cons (xs_set (i := 4) c (x_mod (xb_int c T.b_int (xa_cons (x_ix c.K (x_var 0) x_int) xa_nil)) (x_var 1)))
    (xss_cons (xs_seti (x_fdiv (x_ix c.K (x_var 0) x_int) (x_var 1)) (x_var 0) x_int)
    (xss_one (xs_ret (x_var 4))))) xss_nil)
    (xss_cons (xs_set (i := 2) c (x_mod (xb_int c T.b_int (xa_cons (x_add c.K (x_mul (x_ix c.K (x_var 0) x_int) (x_ix c.K (x_var 0) x_int)) (x_mul (x_ix c.K (x_var 0) x_int) x_int)) xa_nil)) x_int))
    (xss_cons (xs_seti (x_mod (xb_int c T.b_int (xa_cons (x_add c.K (x_add c.K (x_mul (x_var 2) x_int) (x_mul (x_ix c.K (x_var 0) x_int) x_int)) x_int) xa_nil)) x_int) (x_var 0) x_int)
    (xss_one (xs_ret (x_mod (xb_int c T.b_int (xa_cons (x_fdiv (x_ix c.K (x_var 0) x_int) x_int) xa_nil)) (x_var 1)))))))))
theorem ok__law_letters (hK : C.K = K) (T : Txt K mg C) (G__law_draw : Callee P w K mg base CX0 C "_law_draw" 1 2 m__law_draw) (F : Fun K "_law_letters" "_law_letters" s__law_letters f fd) : FnOk P w K mg base CX0 2 f fd ["_law_bag", "_law_letters_here", "_law_many"] (spD C 3 m__law_letters) := fn_mk (k := 1) F sc__law_letters hK rfl fun cdv A outer s H E c =>
    (xss_cons (xs_asg (x_tup (xa_cons (x_str []) (xa_cons x_int xa_nil))) (xg_tup c (xgs_cons (xg_name (i := 4) c.nd) (xgs_cons (xg_name (i := 5) c.nd) xgs_nil))))
    (xss_cons (xs_for c (xi_rng1 T.b_range (xa_cons (x_var 2) xa_nil)) (xg_name (i := 3) c.nd) (xss_cons (xs_set (i := 6) c (x_add c.K (x_var 5) (x_call c G__law_draw (xa_cons (x_var 0) (xa_cons (x_sub (x_sub (xb_len c T.b_len (xa_cons (x_var 1) xa_nil)) (x_var 5)) (x_sub (x_sub (x_var 2) x_int) (x_var 3))) xa_nil)))))
    (xss_one (xs_par (i := 4) (j := 5) c (xa_cons (x_add c.K (x_var 4) (x_ix c.K (x_var 1) (x_var 6))) (xa_cons (x_add c.K (x_var 6) x_int) xa_nil))))))
    (xss_one (xs_ret (x_var 4)))))
theorem ok__law_some_comers (hK : C.K = K) (T : Txt K mg C) (G__law_letters : Callee P w K mg base CX0 C "_law_letters" 2 3 m__law_letters) (G__law_draw : Callee P w K mg base CX0 C "_law_draw" 1 2 m__law_draw) (F : Fun K "_law_some_comers" "_law_some_comers" s__law_some_comers f fd) : FnOk P w K mg base CX0 3 f fd ["_law_bag", "_law_most"] (spD C 2 m__law_some_comers) := fn_mk (k := 2) F sc__law_some_comers hK rfl fun cdv A outer s H E c =>
    (xss_one (xs_ret (x_call c G__law_letters (xa_cons (x_var 0) (xa_cons (x_str [65, 66, 67, 68, 69, 70, 71, 72, 73, 74, 75, 76, 77, 78, 79, 80, 81, 82, 83, 84, 85, 86, 87, 88, 89, 90]) (xa_cons (x_add c.K x_int (x_call c G__law_draw (xa_cons (x_var 0) (xa_cons (x_var 1) xa_nil)))) xa_nil))))))
theorem ok__law_some_kinds (hK : C.K = K) (T : Txt K mg C) (G__law_letters : Callee P w K mg base CX0 C "_law_letters" 2 3 m__law_letters) (G__law_draw : Callee P w K mg base CX0 C "_law_draw" 1 2 m__law_draw) (F : Fun K "_law_some_kinds" "_law_some_kinds" s__law_some_kinds f fd) : FnOk P w K mg base CX0 3 f fd ["_law_bag", "_law_most"] (spD C 2 m__law_some_kinds) := fn_mk (k := 2) F sc__law_some_kinds hK rfl fun cdv A outer s H E c =>
    (xss_one (xs_ret (x_call c G__law_letters (xa_cons (x_var 0) (xa_cons (x_str [97, 98, 99, 100, 101, 102, 103, 104, 105, 106, 107, 108, 109, 110, 111, 112, 113, 114, 115, 116, 117, 118, 119, 120, 121, 122]) (xa_cons (x_add c.K x_int (x_call c G__law_draw (xa_cons (x_var 0) (xa_cons (x_var 1) xa_nil)))) xa_nil))))))
theorem ok__law_part (hK : C.K = K) (T : Txt K mg C) (G__law_draw : Callee P w K mg base CX0 C "_law_draw" 1 2 m__law_draw) (F : Fun K "_law_part" "_law_part" s__law_part f fd) : FnOk P w K mg base CX0 2 f fd ["_law_bag", "_law_letters_here"] (spD C 2 m__law_part) := fn_mk (k := 1) F sc__law_part hK rfl fun cdv A outer s H E c =>
    (xss_cons (xs_set (i := 2) c (x_join c.K (x_str []) (x_comp c (xi_any c.K (x_var 1)) (blkOk_by (own := [("_law_letter", 3)]) (N := N__law_part) (sc := defScope s__law_part) (by decide +kernel)) (fun _ _ _ _ _ c => (xg_name (i := 3) c.nd)) (fun _ _ _ _ _ c => (xts_one (t_eq c (x_call c G__law_draw (xa_cons (x_var 0) (xa_cons x_int xa_nil))) x_int))) (fun _ _ _ _ _ c => (x_var 3)))))
    (xss_one (xs_ret (x_if (t_w (w_and (t_ne c (x_var 2) (x_str [])) (w_and1 (t_gt (x_call c G__law_draw (xa_cons (x_var 0) (xa_cons x_int xa_nil))) x_int)))) (x_var 2) (x_str [46])))))
theorem ok__law_of (hK : C.K = K) (T : Txt K mg C) (G__law_draw : Callee P w K mg base CX0 C "_law_draw" 1 2 m__law_draw) (F : Fun K "_law_of" "_law_of" s__law_of f fd) : FnOk P w K mg base CX0 2 f fd ["_law_bag", "_law_things"] (spD C 2 m__law_of) := fn_mk (k := 1) F sc__law_of hK rfl fun cdv A outer s H E c =>
    (xss_one (xs_ret (x_ix c.K (x_var 1) (x_call c G__law_draw (xa_cons (x_var 0) (xa_cons (xb_len c T.b_len (xa_cons (x_var 1) xa_nil)) xa_nil))))))
theorem ok__law_string (hK : C.K = K) (T : Txt K mg C) (G__law_draw : Callee P w K mg base CX0 C "_law_draw" 1 2 m__law_draw) (G__law_of : Callee P w K mg base CX0 C "_law_of" 2 2 m__law_of) (F : Fun K "_law_string" "_law_string" s__law_string f fd) : FnOk P w K mg base CX0 3 f fd ["_law_bag", "_law_kinds", "_law_most"] (spD C 3 m__law_string) := fn_mk (k := 2) F sc__law_string hK rfl fun cdv A outer s H E c =>
    (xss_one (xs_ret (x_join c.K (x_str []) (x_comp c (xi_rng1 T.b_range (xa_cons (x_call c G__law_draw (xa_cons (x_var 0) (xa_cons (x_add c.K (x_var 2) x_int) xa_nil))) xa_nil)) (blkOk_by (own := [("_law_k", 3)]) (N := N__law_string) (sc := defScope s__law_string) (by decide +kernel)) (fun _ _ _ _ _ c => (xg_name (i := 3) c.nd)) (fun _ _ _ _ _ c => xts_nil) (fun _ _ _ _ _ c => (x_call c G__law_of (xa_cons (x_var 0) (xa_cons (x_var 1) xa_nil))))))))
theorem ok__law_line (hK : C.K = K) (T : Txt K mg C) (G__law_part : Callee P w K mg base CX0 C "_law_part" 2 2 m__law_part) (G__law_string : Callee P w K mg base CX0 C "_law_string" 3 3 m__law_string) (F : Fun K "_law_line" "_law_line" s__law_line f fd) : FnOk P w K mg base CX0 4 f fd ["_law_bag", "_law_kinds", "_law_comers", "_law_most"] (spD C 4 m__law_line) := fn_mk (k := 3) F sc__law_line hK rfl fun cdv A outer s H E c =>
    (xss_cons (xs_par3 (i := 4) (j := 5) (l := 6) c (xa_cons (x_call c G__law_part (xa_cons (x_var 0) (xa_cons (x_add c.K (x_str [60]) (x_var 1)) xa_nil))) (xa_cons (x_call c G__law_part (xa_cons (x_var 0) (xa_cons (x_var 2) xa_nil))) (xa_cons (x_call c G__law_part (xa_cons (x_var 0) (xa_cons (x_add c.K (x_str [62]) (x_var 1)) xa_nil))) xa_nil))))
    (xss_one (xs_ret (x_tup (xa_cons (x_var 4) (xa_cons (x_var 5) (xa_cons (x_var 6) (xa_cons (x_call c G__law_string (xa_cons (x_var 0) (xa_cons (x_var 1) (xa_cons (x_var 3) xa_nil)))) xa_nil))))))))
theorem ok__law_some_book (hK : C.K = K) (T : Txt K mg C) (G__law_some_comers : Callee P w K mg base CX0 C "_law_some_comers" 3 2 m__law_some_comers) (G__law_some_kinds : Callee P w K mg base CX0 C "_law_some_kinds" 3 2 m__law_some_kinds) (G__law_draw : Callee P w K mg base CX0 C "_law_draw" 1 2 m__law_draw) (G__law_line : Callee P w K mg base CX0 C "_law_line" 4 4 m__law_line) (G__law_of : Callee P w K mg base CX0 C "_law_of" 2 2 m__law_of) (F : Fun K "_law_some_book" "_law_some_book" s__law_some_book f fd) : FnOk P w K mg base CX0 5 f fd ["_law_bag", "_law_sizes"] (spD C 2 m__law_some_book) := fn_mk (k := 4) F sc__law_some_book hK rfl fun cdv A outer s H E c =>
    (xss_cons (xs_asg (x_tup (xa_cons (x_call c G__law_some_kinds (xa_cons (x_var 0) (xa_cons (x_ix c.K (x_var 1) x_int) xa_nil))) (xa_cons (x_call c G__law_some_comers (xa_cons (x_var 0) (xa_cons (x_ix c.K (x_var 1) x_int) xa_nil))) xa_nil))) (xg_tup c (xgs_cons (xg_name (i := 3) c.nd) (xgs_cons (xg_name (i := 4) c.nd) xgs_nil))))
    (xss_cons (xs_setLcN (i := 2) c (xi_rng1 T.b_range (xa_cons (x_call c G__law_draw (xa_cons (x_var 0) (xa_cons (x_add c.K (x_ix c.K (x_var 1) x_int) x_int) xa_nil))) xa_nil)) (blkOk_by (own := [("_law_k", 5)]) (N := N__law_some_book) (sc := defScope s__law_some_book) (by decide +kernel)) (fun _ _ _ _ _ c => (xg_name (i := 5) c.nd)) (fun _ _ _ _ _ c => xts_nil) (fun _ _ _ _ _ c => (x_call c G__law_line (xa_cons (x_var 0) (xa_cons (x_var 3) (xa_cons (x_var 4) (xa_cons (x_ix c.K (x_var 1) x_int) xa_nil)))))))
    (xss_cons (xs_if (t_w (w_and (t_gt (x_call c G__law_draw (xa_cons (x_var 0) (xa_cons x_int xa_nil))) x_int) (w_and1 (t_lt (xb_len c T.b_len (xa_cons (x_var 2) xa_nil)) (x_ix c.K (x_var 1) x_int))))) (xss_one (xs_expr (x_app c.K (x_var 2) (x_tup (xa_cons (x_str [46]) (xa_cons (x_str [46]) (xa_cons (x_str [46]) (xa_cons (x_call c G__law_of (xa_cons (x_var 0) (xa_cons (x_var 3) xa_nil))) xa_nil)))))))) xss_nil)
    (xss_one (xs_frz 2 (xs_ret (x_lst (xa_cons (x_var 3) (xa_cons (x_var 4) (xa_cons (x_var 2) xa_nil))))))))))
theorem ok_is_rising (hK : C.K = K) (T : Txt K mg C)  (F : Fun K "is_rising" "is_rising" s_is_rising f fd) : FnOk P w K mg base CX0 1 f fd ["value", "letters", "most"] (spD C 3 m_is_rising) := fn_mk (k := 0) F sc_is_rising hK rfl fun cdv A outer s H E c =>
    (xss_cons (xs_if (t_w (w_or (t_not (t_truth c.K (x_isi (b := .str) c.K (x_var 0) T.b_isinstance T.b_str (by decide +kernel)))) (w_or1 (t_not (t_chain o_le o_le p_cmp p_cmp x_int (xb_len c T.b_len (xa_cons (x_var 0) xa_nil)) (x_var 2)))))) (xss_one (xs_ret x_bl)) xss_nil)
    (xss_one (xs_ret (x_and (xb_all c T.b_all (xa_cons (x_comp c (xi_any c.K (x_var 0)) (blkOk_by (own := [("letter", 3)]) (N := N_is_rising) (sc := defScope s_is_rising) (by decide +kernel)) (fun _ _ _ _ _ c => (xg_name (i := 3) c.nd)) (fun _ _ _ _ _ c => xts_nil) (fun _ _ _ _ _ c => (x_in c (x_var 3) (x_var 1)))) xa_nil)) (x_one (x_eq c (xb_list c T.b_list (xa_cons (x_var 0) xa_nil)) (xb_srt c T.b_sorted T.b_set (x_var 0))))))))
theorem ok_is_kinds (hK : C.K = K) (T : Txt K mg C) (G_is_rising : Callee P w K mg base CX0 C "is_rising" 1 3 m_is_rising) (F : Fun K "is_kinds" "is_kinds" s_is_kinds f fd) : FnOk P w K mg base CX0 2 f fd ["value"] (spD C 1 m_is_kinds) := fn_mk (k := 1) F sc_is_kinds hK rfl fun cdv A outer s H E c =>
    (xss_one (xs_ret (x_call c G_is_rising (xa_cons (x_var 0) (xa_cons (x_globS [97, 98, 99, 100, 101, 102, 103, 104, 105, 106, 107, 108, 109, 110, 111, 112, 113, 114, 115, 116, 117, 118, 119, 120, 121, 122] rfl T.g_LOWER) (xa_cons x_int xa_nil))))))
theorem ok_is_comers (hK : C.K = K) (T : Txt K mg C) (G_is_rising : Callee P w K mg base CX0 C "is_rising" 1 3 m_is_rising) (F : Fun K "is_comers" "is_comers" s_is_comers f fd) : FnOk P w K mg base CX0 2 f fd ["value"] (spD C 1 m_is_comers) := fn_mk (k := 1) F sc_is_comers hK rfl fun cdv A outer s H E c =>
    (xss_one (xs_ret (x_call c G_is_rising (xa_cons (x_var 0) (xa_cons (x_globS [65, 66, 67, 68, 69, 70, 71, 72, 73, 74, 75, 76, 77, 78, 79, 80, 81, 82, 83, 84, 85, 86, 87, 88, 89, 90] rfl T.g_UPPER) (xa_cons x_int xa_nil))))))
theorem ok_line_of (hK : C.K = K) (T : Txt K mg C)  (F : Fun K "line_of" "line_of" s_line_of f fd) : FnOk P w K mg base CX0 1 f fd ["row"] (spD C 1 m_line_of) := fn_mk (k := 0) F sc_line_of hK rfl fun cdv A outer s H E c =>
    (xss_cons (xs_set (i := 1) c (x_split (x_var 0) (x_str [32])))
    (xss_cons (xs_if (t_w (w_or (t_ne c (xb_len c T.b_len (xa_cons (x_var 1) xa_nil)) x_int) (w_or1 (t_in c (x_str []) (x_var 1))))) (xss_one (xs_ret x_non)) xss_nil)
    (xss_one (xs_ret (x_tup (xa_star c.K (x_sl c.K (x_var 1) xo_none (xo_some x_int)) (xa_cons (x_if (t_eq c (x_ix c.K (x_var 1) x_int) (x_str [45])) (x_str []) (x_ix c.K (x_var 1) x_int)) xa_nil)))))))
theorem ok_is_part (hK : C.K = K) (T : Txt K mg C) (G_is_rising : Callee P w K mg base CX0 C "is_rising" 1 3 m_is_rising) (F : Fun K "is_part" "is_part" s_is_part f fd) : FnOk P w K mg base CX0 2 f fd ["value", "letters"] (spD C 2 m_is_part) := fn_mk (k := 1) F sc_is_part hK rfl fun cdv A outer s H E c =>
    (xss_one (xs_ret (x_and (x_isi (b := .str) c.K (x_var 0) T.b_isinstance T.b_str (by decide +kernel)) (x_one (x_or (x_eq c (x_var 0) (x_str [46])) (x_one (x_call c G_is_rising (xa_cons (x_var 0) (xa_cons (x_var 1) (xa_cons (xb_len c T.b_len (xa_cons (x_var 1) xa_nil)) xa_nil))))))))))
theorem ok_is_string (hK : C.K = K) (T : Txt K mg C)  (F : Fun K "is_string" "is_string" s_is_string f fd) : FnOk P w K mg base CX0 1 f fd ["value", "kinds"] (spD C 2 m_is_string) := fn_mk (k := 0) F sc_is_string hK rfl fun cdv A outer s H E c =>
    (xss_one (xs_ret (x_and (x_isi (b := .str) c.K (x_var 0) T.b_isinstance T.b_str (by decide +kernel)) (x_one (xb_all c T.b_all (xa_cons (x_comp c (xi_any c.K (x_var 0)) (blkOk_by (own := [("letter", 2)]) (N := N_is_string) (sc := defScope s_is_string) (by decide +kernel)) (fun _ _ _ _ _ c => (xg_name (i := 2) c.nd)) (fun _ _ _ _ _ c => xts_nil) (fun _ _ _ _ _ c => (x_in c (x_var 2) (x_var 1)))) xa_nil))))))
theorem ok_is_word (hK : C.K = K) (T : Txt K mg C) (G_is_string : Callee P w K mg base CX0 C "is_string" 1 2 m_is_string) (F : Fun K "is_word" "is_word" s_is_word f fd) : FnOk P w K mg base CX0 2 f fd ["value", "kinds"] (spD C 2 m_is_word) := fn_mk (k := 1) F sc_is_word hK rfl fun cdv A outer s H E c =>
    (xss_one (xs_ret (x_and (x_call c G_is_string (xa_cons (x_var 0) (xa_cons (x_var 1) xa_nil))) (x_one (x_le (xb_len c T.b_len (xa_cons (x_var 0) xa_nil)) (x_globI (i := 3) rfl T.g_MOST_WORD))))))
theorem ok_is_line (hK : C.K = K) (T : Txt K mg C) (G_is_part : Callee P w K mg base CX0 C "is_part" 2 2 m_is_part) (G_is_word : Callee P w K mg base CX0 C "is_word" 2 2 m_is_word) (F : Fun K "is_line" "is_line" s_is_line f fd) : FnOk P w K mg base CX0 3 f fd ["value", "kinds", "comers"] (spD C 3 m_is_line) := fn_mk (k := 2) F sc_is_line hK rfl fun cdv A outer s H E c =>
    (xss_cons (xs_if (t_w (w_or (t_not (t_truth c.K (x_isi (b := .tuple) c.K (x_var 0) T.b_isinstance T.b_tuple (by decide +kernel)))) (w_or (t_ne c (xb_len c T.b_len (xa_cons (x_var 0) xa_nil)) x_int) (w_or1 (t_not (t_truth c.K (x_call c G_is_part (xa_cons (x_ix c.K (x_var 0) x_int) (xa_cons (x_add c.K (x_str [60]) (x_var 1)) xa_nil))))))))) (xss_one (xs_ret x_bl)) xss_nil)
    (xss_one (xs_ret (x_and (x_call c G_is_part (xa_cons (x_ix c.K (x_var 0) x_int) (xa_cons (x_var 2) xa_nil))) (x_and (x_call c G_is_part (xa_cons (x_ix c.K (x_var 0) x_int) (xa_cons (x_add c.K (x_str [62]) (x_var 1)) xa_nil))) (x_one (x_call c G_is_word (xa_cons (x_ix c.K (x_var 0) x_int) (xa_cons (x_var 1) xa_nil)))))))))
theorem bd_Book___init__ {kV dc pm cd ct : Value} {an : Option Addr} : ∀ us rest : List Value, us.length = (["self", "kinds", "comers"] : List Str).length → bindArgs (PySem.W.fnOf "__init__" "Book.__init__" (defArgs s_Book___init__) (defBody s_Book___init__) (defScope s_Book___init__) .none kV dc pm an cd ct) ⟨us ++ rest, []⟩ = (newTuple rest >>= fun t => pure ((["self", "kinds", "comers"] : List Str).zip us ++ [(("lines" : Str), t)])) := bind_star3 (B := fun us => bindArgs (PySem.W.fnOf "__init__" "Book.__init__" (defArgs s_Book___init__) (defBody s_Book___init__) (defScope s_Book___init__) .none kV dc pm an cd ct) ⟨us, []⟩) (p1 := "self") (p2 := "kinds") (p3 := "comers") (pv := "lines") (fun a b c => rfl) fun a b c r rs => rfl
theorem ok_Book___init__ {oc kV dc pm cd ct : Value} {od an : Option Addr} {sl : Array (Option Value)} (hK : C.K = K) (T : Txt K mg C) (G_is_kinds : Callee P w K mg base CX0 C "is_kinds" 2 1 m_is_kinds) (G_is_comers : Callee P w K mg base CX0 C "is_comers" 2 1 m_is_comers) (G_is_line : Callee P w K mg base CX0 C "is_line" 3 3 m_is_line) (lk : K.lookup f = some ⟨oc, od, .func (PySem.W.fnOf "__init__" "Book.__init__" (defArgs s_Book___init__) (defBody s_Book___init__) (defScope s_Book___init__) .none kV dc pm an cd ct), sl⟩) (hcd : PySem.W.codeIn K cd "Book.__init__" = true) : FnR P w K mg base CX0 4 f (spP C p_Book___init__) := fn_mkS (N := N_Book___init__) (body := b_Book___init__) (ps := ["self", "kinds", "comers"]) (pv := "lines") (n := 3) (k := 3) lk hcd sc_Book___init__ hK rfl bd_Book___init__ fun cdv A outer s H E c =>
    (xss_cons (xs_if (t_not (t_truth c.K (x_call c G_is_kinds (xa_cons (x_var 1) xa_nil)))) (xss_one xs_never) xss_nil)
    (xss_cons (xs_if (t_not (t_truth c.K (x_call c G_is_comers (xa_cons (x_var 2) xa_nil)))) (xss_one xs_never) xss_nil)
    (xss_cons (xs_for c (xi_enumA c.K T.b_enumerate (xa_cons (x_var 3) xa_nil)) (xg_tup c (xgs_cons (xg_name (i := 4) c.nd) (xgs_cons (xg_name (i := 5) c.nd) xgs_nil))) (xss_one (xs_if (t_w (w_or (t_ge (x_var 4) (x_cvalE (i := 8) T.k_Book T.v_Book_MOST)) (w_or1 (t_not (t_truth c.K (x_call c G_is_line (xa_cons (x_var 5) (xa_cons (x_var 1) (xa_cons (x_var 2) xa_nil))))))))) (xss_one xs_never) xss_nil)))
    (xss_cons (xs_fld c.K (fld_tb T.f_Book_kinds) T.hn (x_var 1) (x_var 0))
    (xss_cons (xs_fld c.K (fld_tb T.f_Book_comers) T.hn (x_var 2) (x_var 0))
    (xss_one (xs_fld c.K (fld_tb T.f_Book_own_lines) T.hn (xb_list c T.b_list (xa_cons (x_var 3) xa_nil)) (x_var 0))))))))
theorem ok_Book_read (hK : C.K = K) (T : Txt K mg C) (G_is_kinds : Callee P w K mg base CX0 C "is_kinds" 2 1 m_is_kinds) (G_is_comers : Callee P w K mg base CX0 C "is_comers" 2 1 m_is_comers) (G_line_of : Callee P w K mg base CX0 C "line_of" 1 1 m_line_of) (G_is_line : Callee P w K mg base CX0 C "is_line" 3 3 m_is_line) (G_Book___init__ : MakeOk P w K mg base CX0 C 0 "Book" 4 p_Book___init__) (F : Fun K "read" "Book.read" s_Book_read f fd) : FnOk P w K mg base CX0 6 f fd ["text"] (spD C 1 m_Book_read) := fn_mk (k := 5) F sc_Book_read hK rfl fun cdv A outer s H E c =>
    (xss_cons (xs_set (i := 1) c (x_if (t_truth c.K (x_isi (b := .str) c.K (x_var 0) T.b_isinstance T.b_str (by decide +kernel))) (x_split (x_var 0) (x_str [10])) (x_lst (xa_cons (x_str []) xa_nil))))
    (xss_cons (xs_set (i := 2) c (x_split (x_ix c.K (x_var 1) x_int) (x_str [32])))
    (xss_cons (xs_if (t_w (w_or (t_ne c (xb_len c T.b_len (xa_cons (x_var 2) xa_nil)) x_int) (w_or (t_not (t_truth c.K (x_call c G_is_kinds (xa_cons (x_ix c.K (x_var 2) x_int) xa_nil)))) (w_or1 (t_not (t_truth c.K (x_call c G_is_comers (xa_cons (x_ix c.K (x_var 2) x_int) xa_nil)))))))) (xss_one xs_never) xss_nil)
    (xss_cons (xs_set (i := 3) c (x_lstO xa_nil))
    (xss_cons (xs_for c (xi_enumA c.K T.b_enumerate (xa_cons (x_var 1) xa_nil)) (xg_tup c (xgs_cons (xg_name (i := 4) c.nd) (xgs_cons (xg_name (i := 5) c.nd) xgs_nil))) (xss_one (xs_if (t_gt (x_var 4) x_int) (xss_cons (xs_set (i := 6) c (x_call c G_line_of (xa_cons (x_var 5) xa_nil)))
    (xss_cons (xs_if (t_w (w_or (t_gt (x_var 4) (x_cvalE (i := 8) T.k_Book T.v_Book_MOST)) (w_or1 (t_not (t_truth c.K (x_call c G_is_line (xa_cons (x_var 6) (xa_cons (x_ix c.K (x_var 2) x_int) (xa_cons (x_ix c.K (x_var 2) x_int) xa_nil))))))))) (xss_one xs_never) xss_nil)
    (xss_one (xs_expr (x_app c.K (x_var 3) (x_var 6)))))) xss_nil)))
    (xss_one (xs_ret (x_makeS c G_Book___init__ T.n_Book (xa_cons (x_ix c.K (x_var 2) x_int) (xa_cons (x_ix c.K (x_var 2) x_int) (xa_star c.K (x_var 3) xa_nil)))))))))))
theorem ok__law_line_text (hK : C.K = K) (T : Txt K mg C)  (F : Fun K "_law_line_text" "_law_line_text" s__law_line_text f fd) : FnOk P w K mg base CX0 1 f fd ["_law_row"] (spD C 1 m__law_line_text) := fn_mk (k := 0) F sc__law_line_text hK rfl fun cdv A outer s H E c =>
    (xss_one (xs_ret (x_join c.K (x_str [32]) (x_lst (xa_cons (x_ix c.K (x_var 0) x_int) (xa_cons (x_ix c.K (x_var 0) x_int) (xa_cons (x_ix c.K (x_var 0) x_int) (xa_cons (x_if (t_ne c (x_ix c.K (x_var 0) x_int) (x_str [])) (x_ix c.K (x_var 0) x_int) (x_str [45])) xa_nil))))))))
theorem ok__law_book_text (hK : C.K = K) (T : Txt K mg C) (G__law_line_text : Callee P w K mg base CX0 C "_law_line_text" 1 1 m__law_line_text) (F : Fun K "_law_book_text" "_law_book_text" s__law_book_text f fd) : FnOk P w K mg base CX0 2 f fd ["_law_spec"] (spD C 1 m__law_book_text) := fn_mk (k := 1) F sc__law_book_text hK rfl fun cdv A outer s H E c =>
    (xss_one (xs_ret (x_join c.K (x_str [10]) (x_add c.K (x_lst (xa_cons (x_add c.K (x_add c.K (x_ix c.K (x_var 0) x_int) (x_str [32])) (x_ix c.K (x_var 0) x_int)) xa_nil)) (x_comp c (xi_any c.K (x_ix c.K (x_var 0) x_int)) (blkOk_by (own := [("_law_row", 1)]) (N := N__law_book_text) (sc := defScope s__law_book_text) (by decide +kernel)) (fun _ _ _ _ _ c => (xg_name (i := 1) c.nd)) (fun _ _ _ _ _ c => xts_nil) (fun _ _ _ _ _ c => (x_call c G__law_line_text (xa_cons (x_var 1) xa_nil))))))))
theorem ok__law_book (hK : C.K = K) (T : Txt K mg C) (G_Book_read : StatOk P w K mg base CX0 C 0 "read" 6 (ar 1 m_Book_read)) (G__law_book_text : Callee P w K mg base CX0 C "_law_book_text" 2 1 m__law_book_text) (F : Fun K "_law_book" "_law_book" s__law_book f fd) : FnOk P w K mg base CX0 7 f fd ["_law_spec"] (spD C 1 m__law_book) := fn_mk (k := 6) F sc__law_book hK rfl fun cdv A outer s H E c =>
    (xss_one (xs_ret (x_stat c T.k_Book G_Book_read (xa_cons (x_call c G__law_book_text (xa_cons (x_var 0) xa_nil)) xa_nil))))
theorem ok__law_same (hK : C.K = K) (T : Txt K mg C)  (F : Fun K "_law_same" "_law_same" s__law_same f fd) (hm : mg "_law_same" = some (.ref f)) (bd : Binds K fd ["_law_found", "_law_due"] []) : ∀ n : Nat, FnOk P w K mg base CX0 (0 + n + 1) f fd ["_law_found", "_law_due"] (spD C 2 (m__law_same n))
  | 0 => fn_fail rfl
  | n + 1 => by
    have R := callee_mk F (ok__law_same hK T  F hm bd n) hm bd
    exact fn_mk (k := 0 + n + 1) F sc__law_same hK rfl fun cdv A outer s H E c => (xss_cons (xs_if (t_w (w_or (t_is (x_var 1) x_non) (w_or1 (t_is (x_var 0) x_non)))) (xss_one (xs_ret (x_and (x_is (x_var 1) x_non) (x_one (x_is (x_var 0) x_non))))) xss_nil)
    (xss_cons (xs_if (t_truth c.K (x_isi2 (b := .list) (b2 := .tuple) c.K (x_var 1) T.b_isinstance T.b_list T.b_tuple (by decide +kernel) (by decide +kernel))) (xss_cons (xs_if (t_ne c (x_isi (b := .list) c.K (x_var 0) T.b_isinstance T.b_list (by decide +kernel)) (x_isi (b := .list) c.K (x_var 1) T.b_isinstance T.b_list (by decide +kernel))) (xss_one (xs_ret x_bl)) xss_nil)
    (xss_cons (xs_if (t_w (w_or (t_ne c (x_isi (b := .tuple) c.K (x_var 0) T.b_isinstance T.b_tuple (by decide +kernel)) (x_isi (b := .tuple) c.K (x_var 1) T.b_isinstance T.b_tuple (by decide +kernel))) (w_or1 (t_ne c (xb_len c T.b_len (xa_cons (x_var 0) xa_nil)) (xb_len c T.b_len (xa_cons (x_var 1) xa_nil)))))) (xss_one (xs_ret x_bl)) xss_nil)
    (xss_one (xs_ret (xb_all c T.b_all (xa_cons (x_comp c (xi_zip c.K T.b_zip (xa_cons (x_var 0) (xa_cons (x_var 1) xa_nil))) (blkOk_by (own := [("_law_a", 2), ("_law_b", 3)]) (N := N__law_same) (sc := defScope s__law_same) (by decide +kernel)) (fun _ _ _ _ _ c => (xg_tup c (xgs_cons (xg_name (i := 2) c.nd) (xgs_cons (xg_name (i := 3) c.nd) xgs_nil)))) (fun _ _ _ _ _ c => xts_nil) (fun _ _ _ _ _ c => (x_callR c R (xa_cons (x_var 2) (xa_cons (x_var 3) xa_nil))))) xa_nil)))))) xss_nil)
    (xss_cons (xs_if (t_truth c.K (x_isi2 (b := .list) (b2 := .tuple) c.K (x_var 0) T.b_isinstance T.b_list T.b_tuple (by decide +kernel) (by decide +kernel))) (xss_one (xs_ret x_bl)) xss_nil)
    (xss_cons (xs_if (t_ne c (x_isi (b := .bool) c.K (x_var 0) T.b_isinstance T.b_bool (by decide +kernel)) (x_isi (b := .bool) c.K (x_var 1) T.b_isinstance T.b_bool (by decide +kernel))) (xss_one (xs_ret x_bl)) xss_nil)
    (xss_cons (xs_if (t_ne c (x_isi (b := .int) c.K (x_var 0) T.b_isinstance T.b_int (by decide +kernel)) (x_isi (b := .int) c.K (x_var 1) T.b_isinstance T.b_int (by decide +kernel))) (xss_one (xs_ret x_bl)) xss_nil)
    (xss_one (xs_ret (x_and (x_eq c (x_isi (b := .str) c.K (x_var 0) T.b_isinstance T.b_str (by decide +kernel)) (x_isi (b := .str) c.K (x_var 1) T.b_isinstance T.b_str (by decide +kernel))) (x_one (x_eq c (x_var 0) (x_var 1)))))))))))
theorem ok_Book_lines (hK : C.K = K) (T : Txt K mg C)  (F : Fun K "lines" "Book.lines" s_Book_lines f fd) : FnOk P w K mg base CX0 1 f fd ["self"] (spD C 1 m_Book_lines) := fn_mk (k := 0) F sc_Book_lines hK rfl fun cdv A outer s H E c =>
    (xss_one (xs_ret (xb_list c T.b_list (xa_cons (x_fld c.K (fld_tb T.f_Book_own_lines) (x_var 0)) xa_nil))))
theorem ok_is_number (hK : C.K = K) (T : Txt K mg C)  (F : Fun K "is_number" "is_number" s_is_number f fd) : FnOk P w K mg base CX0 1 f fd ["value", "least", "most"] (spD C 3 m_is_number) := fn_mk (k := 0) F sc_is_number hK rfl fun cdv A outer s H E c =>
    (xss_one (xs_ret (x_and (x_isi (b := .int) c.K (x_var 0) T.b_isinstance T.b_int (by decide +kernel)) (x_and (x_not (x_isi (b := .bool) c.K (x_var 0) T.b_isinstance T.b_bool (by decide +kernel))) (x_one (x_chain o_le o_le p_cmp p_cmp (x_var 1) (x_var 0) (x_var 2)))))))
theorem bd_Book_muted {kV dc pm cd ct : Value} {an : Option Addr} : ∀ us rest : List Value, us.length = (["self"] : List Str).length → bindArgs (PySem.W.fnOf "muted" "Book.muted" (defArgs s_Book_muted) (defBody s_Book_muted) (defScope s_Book_muted) .none kV dc pm an cd ct) ⟨us ++ rest, []⟩ = (newTuple rest >>= fun t => pure ((["self"] : List Str).zip us ++ [(("at" : Str), t)])) := bind_star1 (B := fun us => bindArgs (PySem.W.fnOf "muted" "Book.muted" (defArgs s_Book_muted) (defBody s_Book_muted) (defScope s_Book_muted) .none kV dc pm an cd ct) ⟨us, []⟩) (p1 := "self") (pv := "at") (fun a => rfl) fun a r rs => rfl
theorem ok_Book_muted {oc kV dc pm cd ct : Value} {od an : Option Addr} {sl : Array (Option Value)} (hK : C.K = K) (T : Txt K mg C) (G_is_number : Callee P w K mg base CX0 C "is_number" 1 3 m_is_number) (G_Book___init__ : MakeOk P w K mg base CX0 C 0 "Book" 4 p_Book___init__) (lk : K.lookup f = some ⟨oc, od, .func (PySem.W.fnOf "muted" "Book.muted" (defArgs s_Book_muted) (defBody s_Book_muted) (defScope s_Book_muted) .none kV dc pm an cd ct), sl⟩) (hcd : PySem.W.codeIn K cd "Book.muted" = true) : FnR P w K mg base CX0 6 f (spP C p_Book_muted) := fn_mkS (N := N_Book_muted) (body := b_Book_muted) (ps := ["self"]) (pv := "at") (n := 1) (k := 5) lk hcd sc_Book_muted hK rfl bd_Book_muted fun cdv A outer s H E c =>
    (xss_cons (xs_for c (xi_any c.K (x_var 1)) (xg_name (i := 2) c.nd) (xss_one (xs_if (t_not (t_truth c.K (x_call c G_is_number (xa_cons (x_var 2) (xa_cons x_int (xa_cons (x_sub (xb_len c T.b_len (xa_cons (x_fld c.K (fld_tb T.f_Book_own_lines) (x_var 0)) xa_nil)) x_int) xa_nil)))))) (xss_one xs_never) xss_nil)))
    (xss_cons (xs_setLc (i := 3) c (xi_enumA c.K T.b_enumerate (xa_cons (x_fld c.K (fld_tb T.f_Book_own_lines) (x_var 0)) xa_nil)) (blkOk_by (own := [("index", 4), ("line", 5)]) (N := N_Book_muted) (sc := defScope s_Book_muted) (by decide +kernel)) (fun _ _ _ _ _ c => (xg_tup c (xgs_cons (xg_name (i := 4) c.nd) (xgs_cons (xg_name (i := 5) c.nd) xgs_nil)))) (fun _ _ _ _ _ c => xts_nil) (fun _ _ _ _ _ c => (x_if (t_in c (x_var 4) (x_var 1)) (x_tup (xa_star c.K (x_sl c.K (x_var 5) xo_none (xo_some x_int)) (xa_cons (x_str []) xa_nil))) (x_var 5))))
    (xss_one (xs_ret (x_makeS c G_Book___init__ T.n_Book (xa_cons (x_fld c.K (fld_tb T.f_Book_kinds) (x_var 0)) (xa_cons (x_fld c.K (fld_tb T.f_Book_comers) (x_var 0)) (xa_star c.K (x_var 3) xa_nil))))))))
theorem ok_Book___eq__ (hK : C.K = K) (T : Txt K mg C) (G_Book_lines : MethOk P w K mg base CX0 C 0 "lines" 1 (ar 1 m_Book_lines)) (F : Fun K "__eq__" "Book.__eq__" s_Book___eq__ f fd) : FnOk P w K mg base CX0 2 f fd ["self", "other"] (spD C 2 m_Book___eq__) := fn_mk (k := 1) F sc_Book___eq__ hK rfl fun cdv A outer s H E c =>
    (xss_cons (xs_if (t_not (t_truth c.K (x_isC c.K (x_var 1) T.b_isinstance T.k_Book T.is_Book))) (xss_one (xs_ret x_bl)) xss_nil)
    (xss_one (xs_ret (x_and (x_eq c (x_fld c.K (fld_tb T.f_Book_kinds) (x_var 0)) (x_fld c.K (fld_tb T.f_Book_kinds) (x_var 1))) (x_and (x_eq c (x_fld c.K (fld_tb T.f_Book_comers) (x_var 0)) (x_fld c.K (fld_tb T.f_Book_comers) (x_var 1))) (x_one (x_eq c (x_fld c.K (fld_tb T.f_Book_own_lines) (x_var 0)) (x_meth0 c G_Book_lines (x_var 1)))))))))
theorem ok__law_all_gaps (hK : C.K = K) (T : Txt K mg C)  (F : Fun K "_law_all_gaps" "_law_all_gaps" s__law_all_gaps f fd) : FnOk P w K mg base CX0 1 f fd ["_law_kinds"] (spD C 1 m__law_all_gaps) := fn_mk (k := 0) F sc__law_all_gaps hK rfl fun cdv A outer s H E c =>
    (xss_cons (xs_set (i := 1) c (x_lst xa_nil))
    (xss_cons (xs_for c (xi_any c.K (x_add c.K (x_str [60]) (x_var 0))) (xg_name (i := 2) c.nd) (xss_one (xs_set (i := 1) c (x_add c.K (x_var 1) (x_comp c (xi_any c.K (x_add c.K (x_var 0) (x_str [62]))) (blkOk_by (own := [("_law_right", 3)]) (N := N__law_all_gaps) (sc := defScope s__law_all_gaps) (by decide +kernel)) (fun _ _ _ _ _ c => (xg_name (i := 3) c.nd)) (fun _ _ _ _ _ c => xts_nil) (fun _ _ _ _ _ c => (x_add c.K (x_var 2) (x_var 3))))))))
    (xss_one (xs_ret (x_var 1)))))
theorem ok_is_gap (hK : C.K = K) (T : Txt K mg C)  (F : Fun K "is_gap" "is_gap" s_is_gap f fd) : FnOk P w K mg base CX0 1 f fd ["value", "kinds"] (spD C 2 m_is_gap) := fn_mk (k := 0) F sc_is_gap hK rfl fun cdv A outer s H E c =>
    (xss_cons (xs_if (t_w (w_or (t_not (t_truth c.K (x_isi (b := .str) c.K (x_var 0) T.b_isinstance T.b_str (by decide +kernel)))) (w_or1 (t_ne c (xb_len c T.b_len (xa_cons (x_var 0) xa_nil)) x_int)))) (xss_one (xs_ret x_bl)) xss_nil)
    (xss_one (xs_ret (x_and (x_in c (x_ix c.K (x_var 0) x_int) (x_add c.K (x_str [60]) (x_var 1))) (x_one (x_in c (x_ix c.K (x_var 0) x_int) (x_add c.K (x_var 1) (x_str [62]))))))))
theorem ok_is_one (hK : C.K = K) (T : Txt K mg C)  (F : Fun K "is_one" "is_one" s_is_one f fd) : FnOk P w K mg base CX0 1 f fd ["value", "letters"] (spD C 2 m_is_one) := fn_mk (k := 0) F sc_is_one hK rfl fun cdv A outer s H E c =>
    (xss_one (xs_ret (x_and (x_isi (b := .str) c.K (x_var 0) T.b_isinstance T.b_str (by decide +kernel)) (x_and (x_eq c (xb_len c T.b_len (xa_cons (x_var 0) xa_nil)) x_int) (x_one (x_in c (x_var 0) (x_var 1)))))))
theorem ok_takes (hK : C.K = K) (T : Txt K mg C)  (F : Fun K "takes" "takes" s_takes f fd) : FnOk P w K mg base CX0 1 f fd ["part", "letter"] (spD C 2 m_takes) := fn_mk (k := 0) F sc_takes hK rfl fun cdv A outer s H E c =>
    (xss_one (xs_ret (x_or (x_eq c (x_var 0) (x_str [46])) (x_one (x_in c (x_var 1) (x_var 0))))))
theorem ok_Book_line_at (hK : C.K = K) (T : Txt K mg C) (G_is_gap : Callee P w K mg base CX0 C "is_gap" 1 2 m_is_gap) (G_is_one : Callee P w K mg base CX0 C "is_one" 1 2 m_is_one) (G_takes : Callee P w K mg base CX0 C "takes" 1 2 m_takes) (F : Fun K "line_at" "Book.line_at" s_Book_line_at f fd) : FnOk P w K mg base CX0 2 f fd ["self", "gap", "comer"] (spD C 3 m_Book_line_at) := fn_mk (k := 1) F sc_Book_line_at hK rfl fun cdv A outer s H E c =>
    (xss_cons (xs_if (t_not (t_truth c.K (x_call c G_is_gap (xa_cons (x_var 1) (xa_cons (x_fld c.K (fld_tb T.f_Book_kinds) (x_var 0)) xa_nil))))) (xss_one xs_never) xss_nil)
    (xss_cons (xs_if (t_not (t_truth c.K (x_call c G_is_one (xa_cons (x_var 2) (xa_cons (x_fld c.K (fld_tb T.f_Book_comers) (x_var 0)) xa_nil))))) (xss_one xs_never) xss_nil)
    (xss_cons (xs_for c (xi_enumA c.K T.b_enumerate (xa_cons (x_fld c.K (fld_tb T.f_Book_own_lines) (x_var 0)) xa_nil)) (xg_tup c (xgs_cons (xg_name (i := 3) c.nd) (xgs_cons (xg_name (i := 4) c.nd) xgs_nil))) (xss_one (xs_if (t_w (w_and (t_truth c.K (x_call c G_takes (xa_cons (x_ix c.K (x_var 4) x_int) (xa_cons (x_ix c.K (x_var 1) x_int) xa_nil)))) (w_and (t_truth c.K (x_call c G_takes (xa_cons (x_ix c.K (x_var 4) x_int) (xa_cons (x_var 2) xa_nil)))) (w_and1 (t_truth c.K (x_call c G_takes (xa_cons (x_ix c.K (x_var 4) x_int) (xa_cons (x_ix c.K (x_var 1) x_int) xa_nil)))))))) (xss_one (xs_ret (x_var 3))) xss_nil)))
    (xss_one (xs_ret x_non)))))
theorem ok_Book_word (hK : C.K = K) (T : Txt K mg C) (G_Book_line_at : MethOk P w K mg base CX0 C 0 "line_at" 2 (ar 3 m_Book_line_at)) (F : Fun K "word" "Book.word" s_Book_word f fd) : FnOk P w K mg base CX0 3 f fd ["self", "gap", "comer"] (spD C 3 m_Book_word) := fn_mk (k := 2) F sc_Book_word hK rfl fun cdv A outer s H E c =>
    (xss_cons (xs_set (i := 3) c (x_meth c G_Book_line_at (x_var 0) (xa_cons (x_var 1) (xa_cons (x_var 2) xa_nil))))
    (xss_one (xs_ret (x_if (t_is (x_var 3) x_non) (x_str []) (x_ix c.K (x_ix c.K (x_fld c.K (fld_tb T.f_Book_own_lines) (x_var 0)) (x_var 3)) x_int)))))
theorem ok__law_fits (hK : C.K = K) (T : Txt K mg C)  (F : Fun K "_law_fits" "_law_fits" s__law_fits f fd) : FnOk P w K mg base CX0 1 f fd ["_law_part_here", "_law_letter"] (spD C 2 m__law_fits) := fn_mk (k := 0) F sc__law_fits hK rfl fun cdv A outer s H E c =>
    (xss_one (xs_ret (x_or (x_eq c (x_var 0) (x_str [46])) (x_one (x_in c (x_var 1) (x_var 0))))))
theorem ok__law_line_at (hK : C.K = K) (T : Txt K mg C) (G__law_fits : Callee P w K mg base CX0 C "_law_fits" 1 2 m__law_fits) (F : Fun K "_law_line_at" "_law_line_at" s__law_line_at f fd) : FnOk P w K mg base CX0 2 f fd ["_law_spec", "_law_gap", "_law_comer"] (spD C 3 m__law_line_at) := fn_mk (k := 1) F sc__law_line_at hK rfl fun cdv A outer s H E c =>
    (xss_cons (xs_for c (xi_enumA c.K T.b_enumerate (xa_cons (x_ix c.K (x_var 0) x_int) xa_nil)) (xg_tup c (xgs_cons (xg_name (i := 3) c.nd) (xgs_cons (xg_name (i := 4) c.nd) xgs_nil))) (xss_cons (xs_set (i := 5) c (x_lst (xa_cons (x_call c G__law_fits (xa_cons (x_ix c.K (x_var 4) x_int) (xa_cons (x_ix c.K (x_var 1) x_int) xa_nil))) (xa_cons (x_call c G__law_fits (xa_cons (x_ix c.K (x_var 4) x_int) (xa_cons (x_var 2) xa_nil))) (xa_cons (x_call c G__law_fits (xa_cons (x_ix c.K (x_var 4) x_int) (xa_cons (x_ix c.K (x_var 1) x_int) xa_nil))) xa_nil)))))
    (xss_one (xs_if (t_truth c.K (xb_all c T.b_all (xa_cons (x_var 5) xa_nil))) (xss_one (xs_ret (x_var 3))) xss_nil))))
    (xss_one (xs_ret x_non)))
theorem ok__law_word (hK : C.K = K) (T : Txt K mg C) (G__law_line_at : Callee P w K mg base CX0 C "_law_line_at" 2 3 m__law_line_at) (F : Fun K "_law_word" "_law_word" s__law_word f fd) : FnOk P w K mg base CX0 3 f fd ["_law_spec", "_law_gap", "_law_comer"] (spD C 3 m__law_word) := fn_mk (k := 2) F sc__law_word hK rfl fun cdv A outer s H E c =>
    (xss_cons (xs_set (i := 3) c (x_call c G__law_line_at (xa_cons (x_var 0) (xa_cons (x_var 1) (xa_cons (x_var 2) xa_nil)))))
    (xss_one (xs_ret (x_if (t_is (x_var 3) x_non) (x_str []) (x_ix c.K (x_ix c.K (x_ix c.K (x_var 0) x_int) (x_var 3)) x_int)))))
theorem ok__law_tries {ρ : Env} (hK : C.K = K) (G__law_try : Callee P w K mg base CX0 C "_law_try" 8 1 (m_law_try lmT ρ C.nm isE)) (F : Fun K "_law_tries" "_law_tries" s__law_tries f fd) : FnOk P w K mg base CX0 9 f fd ["_law_asks"] (spD C 1 (m_law_tries lmT ρ C.nm isE)) := fn_mk (k := 8) F sc__law_tries hK rfl fun cdv A outer s H E c =>
    (xss_one (xs_ret (x_comp c (xi_any c.K (x_var 0)) (blkOk_by (own := [("_law_ask", 1)]) (N := N__law_tries) (sc := defScope s__law_tries) (by decide +kernel)) (fun _ _ _ _ _ c => (xg_name (i := 1) c.nd)) (fun _ _ _ _ _ c => xts_nil) (fun _ _ _ _ _ c => (x_call c G__law_try (xa_cons (x_var 1) xa_nil))))))
theorem bd_Book___init___x {kV dc pm cd ct : Value} {an : Option Addr} : ∀ us rest : List Value, us.length = (["self", "kinds", "comers"] : List Str).length → bindArgs (PySem.W.fnOf "__init__" "Book.__init__" (defArgs s_Book___init___x) (defBody s_Book___init___x) (defScope s_Book___init___x) .none kV dc pm an cd ct) ⟨us ++ rest, []⟩ = (newTuple rest >>= fun t => pure ((["self", "kinds", "comers"] : List Str).zip us ++ [(("lines" : Str), t)])) := bind_star3 (B := fun us => bindArgs (PySem.W.fnOf "__init__" "Book.__init__" (defArgs s_Book___init___x) (defBody s_Book___init___x) (defScope s_Book___init___x) .none kV dc pm an cd ct) ⟨us, []⟩) (p1 := "self") (p2 := "kinds") (p3 := "comers") (pv := "lines") (fun a b c => rfl) fun a b c r rs => rfl
theorem ok_Book___init___x {oc kV dc pm cd ct : Value} {od an : Option Addr} {sl : Array (Option Value)} (hK : C.K = K) (T : Txt K mg C) (G_is_kinds : Callee P w K mg base CX0 C "is_kinds" 2 1 m_is_kinds) (Z_InvalidKinds : ExcOk P w K mg base C "InvalidKinds" 18 [73, 110, 118, 97, 108, 105, 100, 75, 105, 110, 100, 115] "given" 1) (G_is_comers : Callee P w K mg base CX0 C "is_comers" 2 1 m_is_comers) (Z_InvalidComers : ExcOk P w K mg base C "InvalidComers" 19 [73, 110, 118, 97, 108, 105, 100, 67, 111, 109, 101, 114, 115] "given" 1) (G_is_line : Callee P w K mg base CX0 C "is_line" 3 3 m_is_line) (Z_InvalidLine : ExcOk P w K mg base C "InvalidLine" 20 [73, 110, 118, 97, 108, 105, 100, 76, 105, 110, 101] "at" 1) (lk : K.lookup f = some ⟨oc, od, .func (PySem.W.fnOf "__init__" "Book.__init__" (defArgs s_Book___init___x) (defBody s_Book___init___x) (defScope s_Book___init___x) .none kV dc pm an cd ct), sl⟩) (hcd : PySem.W.codeIn K cd "Book.__init__" = true) : FnR P w K mg base (L2.CX P w) 4 f (spP C p_Book___init___x) := fn_mkSX (N := N_Book___init___x) (body := b_Book___init___x) (ps := ["self", "kinds", "comers"]) (pv := "lines") (n := 3) (k := 3) lk hcd sc_Book___init___x hK rfl bd_Book___init___x fun cdv A outer s H E c =>
    (xss_cons (xs_if (t_not (t_truth c.K (x_call c (G_is_kinds.up) (xa_cons (x_var 1) xa_nil)))) (xss_one (xs_raise c Z_InvalidKinds (xa_cons (x_var 1) xa_nil))) xss_nil)
    (xss_cons (xs_if (t_not (t_truth c.K (x_call c (G_is_comers.up) (xa_cons (x_var 2) xa_nil)))) (xss_one (xs_raise c Z_InvalidComers (xa_cons (x_var 2) xa_nil))) xss_nil)
    (xss_cons (xs_for c (xi_enumA c.K T.b_enumerate (xa_cons (x_var 3) xa_nil)) (xg_tup c (xgs_cons (xg_name (i := 4) c.nd) (xgs_cons (xg_name (i := 5) c.nd) xgs_nil))) (xss_one (xs_if (t_w (w_or (t_ge (x_var 4) (x_cvalE (i := 8) T.k_Book T.v_Book_MOST)) (w_or1 (t_not (t_truth c.K (x_call c (G_is_line.up) (xa_cons (x_var 5) (xa_cons (x_var 1) (xa_cons (x_var 2) xa_nil))))))))) (xss_one (xs_raise c Z_InvalidLine (xa_cons (x_var 4) xa_nil))) xss_nil)))
    (xss_cons (xs_fld c.K (fld_tb T.f_Book_kinds) T.hn (x_var 1) (x_var 0))
    (xss_cons (xs_fld c.K (fld_tb T.f_Book_comers) T.hn (x_var 2) (x_var 0))
    (xss_one (xs_fld c.K (fld_tb T.f_Book_own_lines) T.hn (xb_list c T.b_list (xa_cons (x_var 3) xa_nil)) (x_var 0))))))))
theorem bd_Book_muted_x {kV dc pm cd ct : Value} {an : Option Addr} : ∀ us rest : List Value, us.length = (["self"] : List Str).length → bindArgs (PySem.W.fnOf "muted" "Book.muted" (defArgs s_Book_muted_x) (defBody s_Book_muted_x) (defScope s_Book_muted_x) .none kV dc pm an cd ct) ⟨us ++ rest, []⟩ = (newTuple rest >>= fun t => pure ((["self"] : List Str).zip us ++ [(("at" : Str), t)])) := bind_star1 (B := fun us => bindArgs (PySem.W.fnOf "muted" "Book.muted" (defArgs s_Book_muted_x) (defBody s_Book_muted_x) (defScope s_Book_muted_x) .none kV dc pm an cd ct) ⟨us, []⟩) (p1 := "self") (pv := "at") (fun a => rfl) fun a r rs => rfl
theorem ok_Book_muted_x {oc kV dc pm cd ct : Value} {od an : Option Addr} {sl : Array (Option Value)} (hK : C.K = K) (T : Txt K mg C) (G_is_number : Callee P w K mg base CX0 C "is_number" 1 3 m_is_number) (Z_InvalidLine : ExcOk P w K mg base C "InvalidLine" 20 [73, 110, 118, 97, 108, 105, 100, 76, 105, 110, 101] "at" 1) (G_Book___init___x : MakeOk P w K mg base (L2.CX P w) C 0 "Book" 4 p_Book___init___x) (lk : K.lookup f = some ⟨oc, od, .func (PySem.W.fnOf "muted" "Book.muted" (defArgs s_Book_muted_x) (defBody s_Book_muted_x) (defScope s_Book_muted_x) .none kV dc pm an cd ct), sl⟩) (hcd : PySem.W.codeIn K cd "Book.muted" = true) : FnR P w K mg base (L2.CX P w) 6 f (spP C p_Book_muted_x) := fn_mkSX (N := N_Book_muted_x) (body := b_Book_muted_x) (ps := ["self"]) (pv := "at") (n := 1) (k := 5) lk hcd sc_Book_muted_x hK rfl bd_Book_muted_x fun cdv A outer s H E c =>
    (xss_cons (xs_for c (xi_any c.K (x_var 1)) (xg_name (i := 2) c.nd) (xss_one (xs_if (t_not (t_truth c.K (x_call c (G_is_number.up) (xa_cons (x_var 2) (xa_cons x_int (xa_cons (x_sub (xb_len c T.b_len (xa_cons (x_fld c.K (fld_tb T.f_Book_own_lines) (x_var 0)) xa_nil)) x_int) xa_nil)))))) (xss_one (xs_raise c Z_InvalidLine (xa_cons (x_var 2) xa_nil))) xss_nil)))
    (xss_cons (xs_setLc (i := 3) c (xi_enumA c.K T.b_enumerate (xa_cons (x_fld c.K (fld_tb T.f_Book_own_lines) (x_var 0)) xa_nil)) (blkOk_by (own := [("index", 4), ("line", 5)]) (N := N_Book_muted_x) (sc := defScope s_Book_muted_x) (by decide +kernel)) (fun _ _ _ _ _ c => (xg_tup c (xgs_cons (xg_name (i := 4) c.nd) (xgs_cons (xg_name (i := 5) c.nd) xgs_nil)))) (fun _ _ _ _ _ c => xts_nil) (fun _ _ _ _ _ c => (x_if (t_in c (x_var 4) (x_var 1)) (x_tup (xa_star c.K (x_sl c.K (x_var 5) xo_none (xo_some x_int)) (xa_cons (x_str []) xa_nil))) (x_var 5))))
    (xss_one (xs_ret (x_makeS c G_Book___init___x T.n_Book (xa_cons (x_fld c.K (fld_tb T.f_Book_kinds) (x_var 0)) (xa_cons (x_fld c.K (fld_tb T.f_Book_comers) (x_var 0)) (xa_star c.K (x_var 3) xa_nil))))))))
theorem field_ok (K : PySem.W.Frag) : FieldW K s__law_field := fun X C a dx c fs hX hC hu hN hv Hd =>
  have h : C.K = X.K := hC.trans hX.symm
  have f : ∀ (n : Str) (p q : Pos) (hb : attributeBase (.Name "_law_e" p) n X.env (eval (.Name "_law_e" p) X.env) = eval (.Name "_law_e" p) X.env), PX X C E0 (.Attribute (.Name "_law_e" p) n q) (e_xf a (C.nm c) fs n (e_var 0)) := fun n p q hb => x_xfA Hd (x_var 0 hN hv) hb
  (xss_cons (xs_if (t_inP h hu (f "code" _ _ rfl) (x_lst (xa_cons (x_str [73, 110, 118, 97, 108, 105, 100, 76, 105, 110, 101]) (xa_cons (x_str [73, 110, 118, 97, 108, 105, 100, 83, 116, 101, 112]) (xa_cons (x_str [73, 110, 118, 97, 108, 105, 100, 84, 97, 98, 108, 101]) (xa_cons (x_str [73, 110, 118, 97, 108, 105, 100, 66, 97, 100]) (xa_cons (x_str [78, 111, 116, 66, 111, 114, 110]) (xa_cons (x_str [78, 111, 116, 70, 114, 101, 101]) (xa_cons (x_str [85, 110, 107, 110, 111, 119, 110, 76, 101, 116, 116, 101, 114]) xa_nil))))))))) (xss_one (xs_ret (f "at" _ _ rfl))) xss_nil)
  (xss_cons (xs_if (t_inP h hu (f "code" _ _ rfl) (x_lst (xa_cons (x_str [84, 111, 111, 77, 97, 110, 121]) (xa_cons (x_str [70, 117, 108, 108]) xa_nil)))) (xss_one (xs_ret (f "most" _ _ rfl))) xss_nil)
  (xss_cons (xs_if (t_inP h hu (f "code" _ _ rfl) (x_lst (xa_cons (x_str [73, 110, 118, 97, 108, 105, 100, 84, 101, 120, 116]) (xa_cons (x_str [73, 110, 118, 97, 108, 105, 100, 80, 97, 103, 101]) xa_nil)))) (xss_one (xs_ret (f "line" _ _ rfl))) xss_nil)
  (xss_cons (xs_if (t_eqP h hu (f "code" _ _ rfl) (x_str [85, 110, 107, 110, 111, 119, 110, 83, 116, 97, 116, 101])) (xss_one (xs_ret (f "state" _ _ rfl))) xss_nil)
  (xss_one (xs_ret (x_if (t_inP h hu (f "code" _ _ rfl) (x_lst (xa_cons (x_str [73, 110, 118, 97, 108, 105, 100, 80, 97, 112, 101, 114]) (xa_cons (x_str [79, 116, 104, 101, 114, 75, 105, 110, 100, 115]) (xa_cons (x_str [79, 116, 104, 101, 114, 67, 111, 109, 101, 114, 115]) (xa_cons (x_str [78, 111, 116, 104, 105, 110, 103, 76, 101, 102, 116]) xa_nil)))))) x_non (f "given" _ _ rfl))))))))
abbrev sx_InvalidKinds : Stmt := inClass (top 3) 0
theorem is_InvalidKinds : IniS ["self", "given"] (defScope sx_InvalidKinds) := ⟨rfl, rfl, rfl, by decide +kernel, by decide +kernel, by decide +kernel, by decide +kernel, rfl, rfl⟩
theorem exc_InvalidKinds {fI cc cda : Addr} (Z : ExRow P K mg "InvalidKinds" "InvalidKinds.__init__" sx_InvalidKinds (C.ca 18) fI cc cda "given") (top : (P.main.scope.names.lookup ("super" : Str)).isSome = false) (opq : PySem.W.nsIn K cStatics "thirdparty.any" = some none) (hs : mg "super" = none) (hn : C.nm 18 = (["code", "given"] : List Str)) : ExcOk P w K mg base C "InvalidKinds" 18 [73, 110, 118, 97, 108, 105, 100, 75, 105, 110, 100, 115] "given" 1 :=
  excOk_of Z ⟨_, rfl, rfl⟩ top opq is_InvalidKinds hs hn (by decide) (by decide) (by decide) rfl (fun _ => rfl) _ (fun _ => rfl)
abbrev sx_InvalidComers : Stmt := inClass (top 4) 0
theorem is_InvalidComers : IniS ["self", "given"] (defScope sx_InvalidComers) := ⟨rfl, rfl, rfl, by decide +kernel, by decide +kernel, by decide +kernel, by decide +kernel, rfl, rfl⟩
theorem exc_InvalidComers {fI cc cda : Addr} (Z : ExRow P K mg "InvalidComers" "InvalidComers.__init__" sx_InvalidComers (C.ca 19) fI cc cda "given") (top : (P.main.scope.names.lookup ("super" : Str)).isSome = false) (opq : PySem.W.nsIn K cStatics "thirdparty.any" = some none) (hs : mg "super" = none) (hn : C.nm 19 = (["code", "given"] : List Str)) : ExcOk P w K mg base C "InvalidComers" 19 [73, 110, 118, 97, 108, 105, 100, 67, 111, 109, 101, 114, 115] "given" 1 :=
  excOk_of Z ⟨_, rfl, rfl⟩ top opq is_InvalidComers hs hn (by decide) (by decide) (by decide) rfl (fun _ => rfl) _ (fun _ => rfl)
abbrev sx_InvalidLine : Stmt := inClass (top 5) 0
theorem is_InvalidLine : IniS ["self", "at"] (defScope sx_InvalidLine) := ⟨rfl, rfl, rfl, by decide +kernel, by decide +kernel, by decide +kernel, by decide +kernel, rfl, rfl⟩
theorem exc_InvalidLine {fI cc cda : Addr} (Z : ExRow P K mg "InvalidLine" "InvalidLine.__init__" sx_InvalidLine (C.ca 20) fI cc cda "at") (top : (P.main.scope.names.lookup ("super" : Str)).isSome = false) (opq : PySem.W.nsIn K cStatics "thirdparty.any" = some none) (hs : mg "super" = none) (hn : C.nm 20 = (["code", "at"] : List Str)) : ExcOk P w K mg base C "InvalidLine" 20 [73, 110, 118, 97, 108, 105, 100, 76, 105, 110, 101] "at" 1 :=
  excOk_of Z ⟨_, rfl, rfl⟩ top opq is_InvalidLine hs hn (by decide) (by decide) (by decide) rfl (fun _ => rfl) _ (fun _ => rfl)
def L_0 : LamI := lamOf lawQ none (eAt (sVal (sAt (sIn (sAt (defBody s_law) 4)) 4)) 0)
theorem ls_0 : LamS2 N_law (defScope s_law) L_0 := lamS2_of rfl rfl rfl (by decide +kernel) (by decide +kernel) (one_none rfl) (by decide +kernel)
def L_1 : LamI := lamOf lawQ (some "_law_one") (eAt (sVal (sAt (sIn (sAt (defBody s_law) 4)) 4)) 1)
theorem ls_1 : LamS2 N_law (defScope s_law) L_1 := lamS2_of rfl rfl rfl (by decide +kernel) (by decide +kernel) (one_some rfl rfl) (by decide +kernel)
def L_2 : LamI := lamOf lawQ (some "_law_two") (eAt (sVal (sAt (sIn (sAt (defBody s_law) 4)) 4)) 2)
theorem ls_2 : LamS2 N_law (defScope s_law) L_2 := lamS2_of rfl rfl rfl (by decide +kernel) (by decide +kernel) (one_some rfl rfl) (by decide +kernel)
def L_3 : LamI := lamOf lawQ none (eAt (sVal (sAt (defBody s_law) 5)) 0)
theorem ls_3 : LamS2 N_law (defScope s_law) L_3 := lamS2_of rfl rfl rfl (by decide +kernel) (by decide +kernel) (one_none rfl) (by decide +kernel)
def L_4 : LamI := lamOf lawQ (some "_law_one") (eAt (sVal (sAt (defBody s_law) 5)) 1)
theorem ls_4 : LamS2 N_law (defScope s_law) L_4 := lamS2_of rfl rfl rfl (by decide +kernel) (by decide +kernel) (one_some rfl rfl) (by decide +kernel)
def lamT : Nat → Option LamI
  | 0 => some L_0
  | 1 => some L_1
  | 2 => some L_2
  | 3 => some L_3
  | 4 => some L_4
  | _ => none
abbrev cxL (P : Program) (w : World) (K : PySem.W.Frag) (mg : Str → Option Value) (base : Heap) (f : Addr) (cdv : Value) (A : Around) (outer : List PySem.Env) (s : Shared) (H : Hp) (E : XK) : Cx := (cxOf CX0 P w K mg base N_law "law" (defScope s_law) f cdv A outer s H E).nox
variable {B : Heap} {cdv : Value} {A A1 : Around} {outer outer1 : List PySem.Env} {s s1 : Shared} {H H1 : Hp} {E E1 : XK} {f1 c1 : Addr}
theorem lam_0 (T : Txt K mg C) (G_Book_muted_x : MethOk P w K mg B (L2.CX P w) C 0 "muted" 6 p_Book_muted_x) (c : Cxx (lamX (cxL P w K mg base f cdv A outer s H E) B A1 outer1 s1 H1 E1 L_0 f1 c1) C E1 (L2.CX P w) 6) : PX (lamX (cxL P w K mg base f cdv A outer s H E) B A1 outer1 s1 H1 E1 L_0 f1 c1) C E1 L_0.body lm_0 :=
    (x_meth c G_Book_muted_x (x_var 4) (xa_cons (x_var 8) xa_nil))
theorem lam_1 (T : Txt K mg C) (G_Book_muted_x : MethOk P w K mg B (L2.CX P w) C 0 "muted" 6 p_Book_muted_x) (c : Cxx (lamX (cxL P w K mg base f cdv A outer s H E) B A1 outer1 s1 H1 E1 L_1 f1 c1) C E1 (L2.CX P w) 6) : PX (lamX (cxL P w K mg base f cdv A outer s H E) B A1 outer1 s1 H1 E1 L_1 f1 c1) C E1 L_1.body lm_1 :=
    (x_meth c G_Book_muted_x (x_var 4) (xa_cons (x_ix c.K (x_var 6) x_int) (xa_cons (x_var 8) xa_nil)))
theorem lam_2 (T : Txt K mg C) (G_Book_muted_x : MethOk P w K mg B (L2.CX P w) C 0 "muted" 6 p_Book_muted_x) (c : Cxx (lamX (cxL P w K mg base f cdv A outer s H E) B A1 outer1 s1 H1 E1 L_2 f1 c1) C E1 (L2.CX P w) 6) : PX (lamX (cxL P w K mg base f cdv A outer s H E) B A1 outer1 s1 H1 E1 L_2 f1 c1) C E1 L_2.body lm_2 :=
    (x_meth c G_Book_muted_x (x_var 4) (xa_cons (x_var 8) (xa_cons x_non (xa_cons (x_ix c.K (x_var 6) x_int) xa_nil))))
theorem lam_3 (T : Txt K mg C) (G_Book_muted_x : MethOk P w K mg B (L2.CX P w) C 0 "muted" 6 p_Book_muted_x) (c : Cxx (lamX (cxL P w K mg base f cdv A outer s H E) B A1 outer1 s1 H1 E1 L_3 f1 c1) C E1 (L2.CX P w) 6) : PX (lamX (cxL P w K mg base f cdv A outer s H E) B A1 outer1 s1 H1 E1 L_3 f1 c1) C E1 L_3.body lm_3 :=
    (x_meth c G_Book_muted_x (x_var 4) (xa_cons (x_var 5) xa_nil))
theorem lam_4 (T : Txt K mg C) (G_Book_muted_x : MethOk P w K mg B (L2.CX P w) C 0 "muted" 6 p_Book_muted_x) (c : Cxx (lamX (cxL P w K mg base f cdv A outer s H E) B A1 outer1 s1 H1 E1 L_4 f1 c1) C E1 (L2.CX P w) 6) : PX (lamX (cxL P w K mg base f cdv A outer s H E) B A1 outer1 s1 H1 E1 L_4 f1 c1) C E1 L_4.body lm_4 :=
    (x_meth c G_Book_muted_x (x_var 4) (xa_cons (x_neg (a := .Name "x" ⟨0, 0, 0, 0⟩)) (xa_cons (x_var 5) xa_nil)))
theorem lams (hK : C.K = K) (hcl : (cxL P w K mg base f cdv A outer s H E).env.cells = C.cl) (hlam : C.lam = lamT) (T : Txt K mg C) (G_Book_muted_x : MethOk P w K mg B (L2.CX P w) C 0 "muted" 6 p_Book_muted_x) : Lams (cxL P w K mg base f cdv A outer s H E) B C lmT 6 := ⟨hcl, fun i m hm L hL => by
  rw [hlam] at hL
  match i, hm, hL with
  | 0, hm, hL =>
    obtain rfl : lm_0 = m := Option.some.inj hm
    obtain rfl : L_0 = L := Option.some.inj hL
    exact ⟨ls_0, rfl, (bind_none rfl fun _ _ _ _ => rfl), fun A1 outer1 s1 H1 E1 f1 c1 hr => lam_0 T G_Book_muted_x (cxx_lam hK sc_law.nd hr)⟩
  | 1, hm, hL =>
    obtain rfl : lm_1 = m := Option.some.inj hm
    obtain rfl : L_1 = L := Option.some.inj hL
    exact ⟨ls_1, rfl, (bind_some rfl fun _ _ _ _ _ _ => ⟨_, rfl, rfl⟩), fun A1 outer1 s1 H1 E1 f1 c1 hr => lam_1 T G_Book_muted_x (cxx_lam hK sc_law.nd hr)⟩
  | 2, hm, hL =>
    obtain rfl : lm_2 = m := Option.some.inj hm
    obtain rfl : L_2 = L := Option.some.inj hL
    exact ⟨ls_2, rfl, (bind_some rfl fun _ _ _ _ _ _ => ⟨_, rfl, rfl⟩), fun A1 outer1 s1 H1 E1 f1 c1 hr => lam_2 T G_Book_muted_x (cxx_lam hK sc_law.nd hr)⟩
  | 3, hm, hL =>
    obtain rfl : lm_3 = m := Option.some.inj hm
    obtain rfl : L_3 = L := Option.some.inj hL
    exact ⟨ls_3, rfl, (bind_none rfl fun _ _ _ _ => rfl), fun A1 outer1 s1 H1 E1 f1 c1 hr => lam_3 T G_Book_muted_x (cxx_lam hK sc_law.nd hr)⟩
  | 4, hm, hL =>
    obtain rfl : lm_4 = m := Option.some.inj hm
    obtain rfl : L_4 = L := Option.some.inj hL
    exact ⟨ls_4, rfl, (bind_some rfl fun _ _ _ _ _ _ => ⟨_, rfl, rfl⟩), fun A1 outer1 s1 H1 E1 f1 c1 hr => lam_4 T G_Book_muted_x (cxx_lam hK sc_law.nd hr)⟩
  | n + 5, hm, hL => exact absurd (show (none : Option (Mx VD)) = some m from hm) (by simp)⟩
theorem wk_law (hK : C.K = K) (T : Txt K mg C) (G__law_open : Callee P w K mg base CX0 C "_law_open" 1 1 m__law_open) (G__law_some_book : Callee P w K mg base CX0 C "_law_some_book" 5 2 m__law_some_book) (G__law_book : Callee P w K mg base CX0 C "_law_book" 7 1 m__law_book) (G__law_same : Callee P w K mg base CX0 C "_law_same" 9 2 (m__law_same 8)) (G_Book_lines : MethOk P w K mg base CX0 C 0 "lines" 1 (ar 1 m_Book_lines)) (G_Book_muted : MethOk P w K mg base CX0 C 0 "muted" 6 p_Book_muted) (G_Book___eq__ : OwnOk P w K mg base CX0 C 0 "__eq__" 2 (ar 2 m_Book___eq__)) (G__law_draw : Callee P w K mg base CX0 C "_law_draw" 1 2 m__law_draw) (G__law_all_gaps : Callee P w K mg base CX0 C "_law_all_gaps" 1 1 m__law_all_gaps) (G_Book_word : MethOk P w K mg base CX0 C 0 "word" 3 (ar 3 m_Book_word)) (G__law_word : Callee P w K mg base CX0 C "_law_word" 3 3 m__law_word) (G__law_of : Callee P w K mg base CX0 C "_law_of" 2 2 m__law_of) (G__law_tries : LamCall (cxL P w K mg base f cdv A outer s H E) C "_law_tries" 9 (fun ρ => m_law_tries lmT ρ tabN isE)) {Pt : Addr} (c : Cxx (cxL P w K mg base f cdv A outer s H E) C E0 CX0 9) (Z : LamCx (cxL P w K mg base f cdv A outer s H E) C Pt lawQ) (hlam : C.lam = lamT) : PXSs (cxL P w K mg base f cdv A outer s H E) C E0 (defBody s_law) b_law :=
    (xss_cons (xs_set (i := 1) c (x_call c G__law_open (xa_cons (x_var 0) xa_nil)))
    (xss_cons (xs_set (i := 2) c (x_call c G__law_some_book (xa_cons (x_var 1) (xa_cons (x_lst (xa_cons x_int (xa_cons x_int (xa_cons x_int (xa_cons x_int xa_nil))))) xa_nil))))
    (xss_cons (xs_asg (x_tup (xa_cons (x_call c G__law_book (xa_cons (x_var 2) xa_nil)) (xa_cons (xb_len c T.b_len (xa_cons (x_ix c.K (x_var 2) x_int) xa_nil)) xa_nil))) (xg_tup c (xgs_cons (xg_name (i := 4) c.nd) (xgs_cons (xg_name (i := 5) c.nd) xgs_nil))))
    (xss_cons (xs_if (t_w (w_or (t_not (t_truth c.K (x_call c G__law_same (xa_cons (x_meth0 c G_Book_lines (x_meth0 c G_Book_muted (x_var 4))) (xa_cons (x_ix c.K (x_var 2) x_int) xa_nil))))) (w_or1 (t_neO c G_Book___eq__ T.ne_Book T.nf_Book (x_meth0 c G_Book_muted (x_var 4)) (x_var 4))))) (xss_one (xs_ret x_bl)) xss_nil)
    (xss_cons (xs_if (t_gt (x_var 5) x_int) (xss_cons (xs_set (i := 6) c (x_comp c (xi_rng1 T.b_range (xa_cons x_int xa_nil)) (blkOk_by (own := [("_law_k", 14)]) (N := N_law) (sc := defScope s_law) (by decide +kernel)) (fun _ _ _ _ _ c => (xg_name (i := 14) c.nd)) (fun _ _ _ _ _ c => xts_nil) (fun _ _ _ _ _ c => (x_call c G__law_draw (xa_cons (x_var 1) (xa_cons (x_var 5) xa_nil))))))
    (xss_cons (xs_set (i := 7) c (x_lst (xa_cons (x_meth c G_Book_muted (x_var 4) (xa_cons (x_ix c.K (x_var 6) x_int) xa_nil)) (xa_cons (x_meth c G_Book_muted (x_var 4) (xa_cons (x_ix c.K (x_var 6) x_int) (xa_cons (x_ix c.K (x_var 6) x_int) xa_nil))) (xa_cons (x_meth c G_Book_muted (x_var 4) (xa_cons (x_ix c.K (x_var 6) x_int) (xa_cons (x_ix c.K (x_var 6) x_int) (xa_cons (x_ix c.K (x_var 6) x_int) xa_nil)))) xa_nil)))))
    (xss_cons (xs_for c (xi_enumA c.K T.b_enumerate (xa_cons (x_var 7) xa_nil)) (xg_tup c (xgs_cons (xg_name (i := 9) c.nd) (xgs_cons (xg_name (i := 10) c.nd) xgs_nil))) (xss_cons (xs_setLc (i := 11) c (xi_enumA c.K T.b_enumerate (xa_cons (x_ix c.K (x_var 2) x_int) xa_nil)) (blkOk_by (own := [("_law_at", 16), ("_law_row", 17)]) (N := N_law) (sc := defScope s_law) (by decide +kernel)) (fun _ _ _ _ _ c => (xg_tup c (xgs_cons (xg_name (i := 16) c.nd) (xgs_cons (xg_name (i := 17) c.nd) xgs_nil)))) (fun _ _ _ _ _ c => xts_nil) (fun _ _ _ _ _ c => (x_if (t_in c (x_var 16) (x_sl c.K (x_var 6) xo_none (xo_some (x_add c.K (x_var 9) x_int)))) (x_tup (xa_cons (x_ix c.K (x_var 17) x_int) (xa_cons (x_ix c.K (x_var 17) x_int) (xa_cons (x_ix c.K (x_var 17) x_int) (xa_cons (x_str []) xa_nil))))) (x_var 17))))
    (xss_cons (xs_set (i := 12) c (x_lst (xa_cons (x_ix c.K (x_var 2) x_int) (xa_cons (x_ix c.K (x_var 2) x_int) (xa_cons (x_var 11) xa_nil)))))
    (xss_cons (xs_if (t_not (t_truth c.K (x_call c G__law_same (xa_cons (x_lst (xa_cons (x_fld c.K (fld_tb T.f_Book_kinds) (x_var 10)) (xa_cons (x_fld c.K (fld_tb T.f_Book_comers) (x_var 10)) (xa_cons (x_meth0 c G_Book_lines (x_var 10)) xa_nil)))) (xa_cons (x_var 12) xa_nil))))) (xss_one (xs_ret x_bl)) xss_nil)
    (xss_cons (xs_if (t_neO c G_Book___eq__ T.ne_Book T.nf_Book (x_var 10) (x_call c G__law_book (xa_cons (x_var 12) xa_nil))) (xss_one (xs_ret x_bl)) xss_nil)
    (xss_one (xs_for c (xi_any c.K (x_call c G__law_all_gaps (xa_cons (x_ix c.K (x_var 2) x_int) xa_nil))) (xg_name (i := 13) c.nd) (xss_cons (xs_setLc (i := 15) c (xi_any c.K (x_ix c.K (x_var 2) x_int)) (blkOk_by (own := [("_law_comer", 18)]) (N := N_law) (sc := defScope s_law) (by decide +kernel)) (fun _ _ _ _ _ c => (xg_name (i := 18) c.nd)) (fun _ _ _ _ _ c => xts_nil) (fun _ _ _ _ _ c => (x_meth c G_Book_word (x_var 10) (xa_cons (x_var 13) (xa_cons (x_var 18) xa_nil)))))
    (xss_one (xs_if (t_not (t_truth c.K (x_call c G__law_same (xa_cons (x_var 15) (xa_cons (x_comp c (xi_any c.K (x_ix c.K (x_var 2) x_int)) (blkOk_by (own := [("_law_comer", 18)]) (N := N_law) (sc := defScope s_law) (by decide +kernel)) (fun _ _ _ _ _ c => (xg_name (i := 18) c.nd)) (fun _ _ _ _ _ c => xts_nil) (fun _ _ _ _ _ c => (x_call c G__law_word (xa_cons (x_var 12) (xa_cons (x_var 13) (xa_cons (x_var 18) xa_nil)))))) xa_nil))))) (xss_one (xs_ret x_bl)) xss_nil))))))))))
    (xss_cons (xs_set (i := 8) c (x_call c G__law_of (xa_cons (x_var 1) (xa_cons (x_lst (xa_cons (x_neg (a := .Name "x" ⟨0, 0, 0, 0⟩)) (xa_cons (x_var 5) (xa_cons (x_add c.K (x_var 5) x_int) (xa_cons x_non (xa_cons x_bl (xa_cons x_bl (xa_cons (x_str [48]) (xa_cons (x_lst (xa_cons x_int xa_nil)) (xa_cons (x_tup (xa_cons x_int xa_nil)) (xa_cons (x_str []) xa_nil))))))))))) xa_nil))))
    (xss_cons (xs_set (i := 3) c (x_lst (xa_cons (x_lam (i := 0) (L := L_0) Z (congrFun hlam 0) (fn_free (by decide +kernel)) (def_none rfl rfl)) (xa_cons (x_lam (i := 1) (L := L_1) Z (congrFun hlam 1) (fn_free (by decide +kernel)) (def_some rfl rfl)) (xa_cons (x_lam (i := 2) (L := L_2) Z (congrFun hlam 2) (fn_free (by decide +kernel)) (def_some rfl rfl)) xa_nil)))))
    (xss_one (xs_if (t_not (t_truth c.K (x_call c G__law_same (xa_cons (x_tried c (fun _ => rfl) G__law_tries (xa_cons (x_var 3) xa_nil)) (xa_cons (x_mul (x_lst (xa_cons (x_tup (xa_cons (x_str [73, 110, 118, 97, 108, 105, 100, 76, 105, 110, 101]) (xa_cons (x_var 8) xa_nil))) xa_nil)) x_int) xa_nil))))) (xss_one (xs_ret x_bl)) xss_nil))))))) xss_nil)
    (xss_cons (xs_set (i := 3) c (x_lst (xa_cons (x_lam (i := 3) (L := L_3) Z (congrFun hlam 3) (fn_free (by decide +kernel)) (def_none rfl rfl)) (xa_cons (x_lam (i := 4) (L := L_4) Z (congrFun hlam 4) (fn_free (by decide +kernel)) (def_some rfl rfl)) xa_nil))))
    (xss_cons (xs_if (t_not (t_truth c.K (x_call c G__law_same (xa_cons (x_tried c (fun _ => rfl) G__law_tries (xa_cons (x_var 3) xa_nil)) (xa_cons (x_lst (xa_cons (x_tup (xa_cons (x_str [73, 110, 118, 97, 108, 105, 100, 76, 105, 110, 101]) (xa_cons (x_var 5) xa_nil))) (xa_cons (x_tup (xa_cons (x_str [73, 110, 118, 97, 108, 105, 100, 76, 105, 110, 101]) (xa_cons (x_neg (a := .Name "x" ⟨0, 0, 0, 0⟩)) xa_nil))) xa_nil))) xa_nil))))) (xss_one (xs_ret x_bl)) xss_nil)
    (xss_one (xs_ret (x_call c G__law_same (xa_cons (x_meth0 c G_Book_lines (x_var 4)) (xa_cons (x_ix c.K (x_var 2) x_int) xa_nil))))))))))))
end
end G

namespace G
open PySem PySem.Spec PyProof.Rows L2
def tabA (A0 A18 A19 A20 : Addr) : Nat → Addr
  | 0 => A0
  | 18 => A18
  | 19 => A19
  | 20 => A20
  | _ => 0
theorem all_mk {l : PySem.W.OpenLaw} {w : World} {K : PySem.W.Frag} {h : Heap} {mg : Str → Option Value} {fa f1 f2 f3 f4 f5 f6 f7 f8 f9 f10 f11 f12 f13 f14 f15 f16 f17 f18 f19 f20 f21 f22 f23 f24 f25 f26 f27 f28 f29 f30 f31 f32 f33 f34 f35 f36 f37 f38 f39 f40 f41 A0 A18 A19 A20 : Addr} (X : K.In h) (G : h.Ns mainGlobals mg) (hfa : mg "law" = some (.ref fa)) (own : LamX.OwnTab K fa h)
    {od1 an1 od2 an2 od3 an3 od4 an4 od5 an5 od6 an6 od7 an7 od8 an8 od9 an9 od10 an10 od11 an11 od12 an12 od13 an13 od14 an14 od15 an15 od16 an16 od17 an17 od18 an18 od19 an19 od20 an20 od21 an21 od22 an22 od23 an23 od24 an24 od25 an25 od26 an26 od27 an27 od28 an28 od29 an29 od30 an30 od31 an31 od32 an32 od33 an33 od34 an34 od35 an35 od36 an36 od37 an37 od38 an38 od39 an39 od40 an40 od41 an41 : Option Addr} {sl1 sl2 sl3 sl4 sl5 sl6 sl7 sl8 sl9 sl10 sl11 sl12 sl13 sl14 sl15 sl16 sl17 sl18 sl19 sl20 sl21 sl22 sl23 sl24 sl25 sl26 sl27 sl28 sl29 sl30 sl31 sl32 sl33 sl34 sl35 sl36 sl37 sl38 sl39 sl40 sl41 : Array (Option Value)} {oc1 kV1 dc1 pm1 cd1 ct1 oc2 kV2 dc2 pm2 cd2 ct2 oc3 kV3 dc3 pm3 cd3 ct3 oc4 kV4 dc4 pm4 cd4 ct4 oc5 kV5 dc5 pm5 cd5 ct5 oc6 kV6 dc6 pm6 cd6 ct6 oc7 kV7 dc7 pm7 cd7 ct7 oc8 kV8 dc8 pm8 cd8 ct8 oc9 kV9 dc9 pm9 cd9 ct9 oc10 kV10 dc10 pm10 cd10 ct10 oc11 kV11 dc11 pm11 cd11 ct11 oc12 kV12 dc12 pm12 cd12 ct12 oc13 kV13 dc13 pm13 cd13 ct13 oc14 kV14 dc14 pm14 cd14 ct14 oc15 kV15 dc15 pm15 cd15 ct15 oc16 kV16 dc16 pm16 cd16 ct16 oc17 kV17 dc17 pm17 cd17 ct17 oc18 kV18 dc18 pm18 cd18 ct18 oc19 kV19 dc19 pm19 cd19 ct19 oc20 kV20 dc20 pm20 cd20 ct20 oc21 kV21 dc21 pm21 cd21 ct21 oc22 kV22 dc22 pm22 cd22 ct22 oc23 kV23 dc23 pm23 cd23 ct23 oc24 kV24 dc24 pm24 cd24 ct24 oc25 kV25 dc25 pm25 cd25 ct25 oc26 kV26 dc26 pm26 cd26 ct26 oc27 kV27 dc27 pm27 cd27 ct27 oc28 kV28 dc28 pm28 cd28 ct28 oc29 kV29 dc29 pm29 cd29 ct29 oc30 kV30 dc30 pm30 cd30 ct30 oc31 kV31 dc31 pm31 cd31 ct31 oc32 kV32 dc32 pm32 cd32 ct32 oc33 kV33 dc33 pm33 cd33 ct33 oc34 kV34 dc34 pm34 cd34 ct34 oc35 kV35 dc35 pm35 cd35 ct35 oc36 kV36 dc36 pm36 cd36 ct36 oc37 kV37 dc37 pm37 cd37 ct37 oc38 kV38 dc38 pm38 cd38 ct38 oc39 kV39 dc39 pm39 cd39 ct39 oc40 kV40 dc40 pm40 cd40 ct40 oc41 kV41 dc41 pm41 cd41 ct41 : Value}
    (x0_at : PySem.W.nsIn K mainGlobals "Book" = some (some (.ref A0)))
    (x0_pg : PySem.W.plainGet K A0 Str.empty = true)
    (x0_hd : PySem.W.hasDictIn K A0 = true)
    (x0_po : PySem.W.plainOver K A0 = true)
    (x0_sa : PySem.W.findIn K (.ref A0) "__setattr__" = some (some (.builtin "object.__setattr__")))
    (x0_na_kinds : PySem.W.findIn K (.ref A0) "kinds" = some none)
    (x0_na_comers : PySem.W.findIn K (.ref A0) "comers" = some none)
    (x0_na_own_lines : PySem.W.findIn K (.ref A0) "own_lines" = some none)
    (x0_rd : PySem.W.readsIn K A0 (.type "type") = true)
    (x0_ga : PySem.W.specialIn K (.ref A0) "__getattribute__" = some (some (.builtin "type.__getattribute__")))
    {t0_MOST : Tok} (x0_cv_MOST : PySem.W.findCls K (.ref A0) (.type "type") "MOST" = some (.val (.int 8 t0_MOST)))
    (x0_nf_non : PySem.W.notFirst K A0 (.type "NoneType") = true)
    (x0_nf_bl : PySem.W.notFirst K A0 (.type "bool") = true)
    (x0_nf_int : PySem.W.notFirst K A0 (.type "int") = true)
    (x0_nf_str : PySem.W.notFirst K A0 (.type "str") = true)
    (x0_nf_lst : PySem.W.notFirst K A0 (.type "list") = true)
    (x0_nf_tup : PySem.W.notFirst K A0 (.type "tuple") = true)
    (x0_ne : PySem.W.findIn K (.ref A0) "__ne__" = some (some (.builtin "object.__ne__")))
    (x0_ob : PySem.W.mroIn K A0 (.type "object") = some true)
    (x0_ha : PySem.W.findIn K (.ref A0) "__class__" = some (some (.builtin "object.__class__")))
    (x0_hn : PySem.W.specialIn K (.builtin "object.__class__") "__get__" = some (some (.builtin "getset_descriptor.__get__")))
    (x0_tk : PySem.W.takesIn K (.builtin "object.__class__") = some true)
    {dd0 : Option Addr} {cc0 : ClassData} {ss0 : Array (Option Value)} (x0_lk : K.lookup A0 = some ⟨.type "type", dd0, .cls cc0, ss0⟩)
    (x0_mk : PySem.W.makesIn K A0 = true)
    (x0_kp : PySem.W.keepIn K (.ref A0) = true)
    (a1 : PySem.W.nsIn K mainGlobals "_law_open" = some (some (.ref f1)))
    (l1 : K.lookup f1 = some ⟨oc1, od1, .func (PySem.W.fnOf "_law_open" "_law_open" (defArgs s__law_open) (defBody s__law_open) (defScope s__law_open) .none kV1 dc1 pm1 an1 cd1 ct1), sl1⟩)
    (c1 : PySem.W.codeIn K cd1 "_law_open" = true)
    (k1 : PySem.W.keepIn K (.ref f1) = true)
    (a2 : PySem.W.nsIn K mainGlobals "_law_draw" = some (some (.ref f2)))
    (l2 : K.lookup f2 = some ⟨oc2, od2, .func (PySem.W.fnOf "_law_draw" "_law_draw" (defArgs s__law_draw) (defBody s__law_draw) (defScope s__law_draw) .none kV2 dc2 pm2 an2 cd2 ct2), sl2⟩)
    (c2 : PySem.W.codeIn K cd2 "_law_draw" = true)
    (k2 : PySem.W.keepIn K (.ref f2) = true)
    (a3 : PySem.W.nsIn K mainGlobals "_law_letters" = some (some (.ref f3)))
    (l3 : K.lookup f3 = some ⟨oc3, od3, .func (PySem.W.fnOf "_law_letters" "_law_letters" (defArgs s__law_letters) (defBody s__law_letters) (defScope s__law_letters) .none kV3 dc3 pm3 an3 cd3 ct3), sl3⟩)
    (c3 : PySem.W.codeIn K cd3 "_law_letters" = true)
    (k3 : PySem.W.keepIn K (.ref f3) = true)
    (a4 : PySem.W.nsIn K mainGlobals "_law_some_comers" = some (some (.ref f4)))
    (l4 : K.lookup f4 = some ⟨oc4, od4, .func (PySem.W.fnOf "_law_some_comers" "_law_some_comers" (defArgs s__law_some_comers) (defBody s__law_some_comers) (defScope s__law_some_comers) .none kV4 dc4 pm4 an4 cd4 ct4), sl4⟩)
    (c4 : PySem.W.codeIn K cd4 "_law_some_comers" = true)
    (k4 : PySem.W.keepIn K (.ref f4) = true)
    (a5 : PySem.W.nsIn K mainGlobals "_law_some_kinds" = some (some (.ref f5)))
    (l5 : K.lookup f5 = some ⟨oc5, od5, .func (PySem.W.fnOf "_law_some_kinds" "_law_some_kinds" (defArgs s__law_some_kinds) (defBody s__law_some_kinds) (defScope s__law_some_kinds) .none kV5 dc5 pm5 an5 cd5 ct5), sl5⟩)
    (c5 : PySem.W.codeIn K cd5 "_law_some_kinds" = true)
    (k5 : PySem.W.keepIn K (.ref f5) = true)
    (a6 : PySem.W.nsIn K mainGlobals "_law_part" = some (some (.ref f6)))
    (l6 : K.lookup f6 = some ⟨oc6, od6, .func (PySem.W.fnOf "_law_part" "_law_part" (defArgs s__law_part) (defBody s__law_part) (defScope s__law_part) .none kV6 dc6 pm6 an6 cd6 ct6), sl6⟩)
    (c6 : PySem.W.codeIn K cd6 "_law_part" = true)
    (k6 : PySem.W.keepIn K (.ref f6) = true)
    (a7 : PySem.W.nsIn K mainGlobals "_law_of" = some (some (.ref f7)))
    (l7 : K.lookup f7 = some ⟨oc7, od7, .func (PySem.W.fnOf "_law_of" "_law_of" (defArgs s__law_of) (defBody s__law_of) (defScope s__law_of) .none kV7 dc7 pm7 an7 cd7 ct7), sl7⟩)
    (c7 : PySem.W.codeIn K cd7 "_law_of" = true)
    (k7 : PySem.W.keepIn K (.ref f7) = true)
    (a8 : PySem.W.nsIn K mainGlobals "_law_string" = some (some (.ref f8)))
    (l8 : K.lookup f8 = some ⟨oc8, od8, .func (PySem.W.fnOf "_law_string" "_law_string" (defArgs s__law_string) (defBody s__law_string) (defScope s__law_string) .none kV8 dc8 pm8 an8 cd8 ct8), sl8⟩)
    (c8 : PySem.W.codeIn K cd8 "_law_string" = true)
    (k8 : PySem.W.keepIn K (.ref f8) = true)
    (a9 : PySem.W.nsIn K mainGlobals "_law_line" = some (some (.ref f9)))
    (l9 : K.lookup f9 = some ⟨oc9, od9, .func (PySem.W.fnOf "_law_line" "_law_line" (defArgs s__law_line) (defBody s__law_line) (defScope s__law_line) .none kV9 dc9 pm9 an9 cd9 ct9), sl9⟩)
    (c9 : PySem.W.codeIn K cd9 "_law_line" = true)
    (k9 : PySem.W.keepIn K (.ref f9) = true)
    (a10 : PySem.W.nsIn K mainGlobals "_law_some_book" = some (some (.ref f10)))
    (l10 : K.lookup f10 = some ⟨oc10, od10, .func (PySem.W.fnOf "_law_some_book" "_law_some_book" (defArgs s__law_some_book) (defBody s__law_some_book) (defScope s__law_some_book) .none kV10 dc10 pm10 an10 cd10 ct10), sl10⟩)
    (c10 : PySem.W.codeIn K cd10 "_law_some_book" = true)
    (k10 : PySem.W.keepIn K (.ref f10) = true)
    (a11 : PySem.W.nsIn K mainGlobals "is_rising" = some (some (.ref f11)))
    (l11 : K.lookup f11 = some ⟨oc11, od11, .func (PySem.W.fnOf "is_rising" "is_rising" (defArgs s_is_rising) (defBody s_is_rising) (defScope s_is_rising) .none kV11 dc11 pm11 an11 cd11 ct11), sl11⟩)
    (c11 : PySem.W.codeIn K cd11 "is_rising" = true)
    (k11 : PySem.W.keepIn K (.ref f11) = true)
    (a12 : PySem.W.nsIn K mainGlobals "is_kinds" = some (some (.ref f12)))
    (l12 : K.lookup f12 = some ⟨oc12, od12, .func (PySem.W.fnOf "is_kinds" "is_kinds" (defArgs s_is_kinds) (defBody s_is_kinds) (defScope s_is_kinds) .none kV12 dc12 pm12 an12 cd12 ct12), sl12⟩)
    (c12 : PySem.W.codeIn K cd12 "is_kinds" = true)
    (k12 : PySem.W.keepIn K (.ref f12) = true)
    (a13 : PySem.W.nsIn K mainGlobals "is_comers" = some (some (.ref f13)))
    (l13 : K.lookup f13 = some ⟨oc13, od13, .func (PySem.W.fnOf "is_comers" "is_comers" (defArgs s_is_comers) (defBody s_is_comers) (defScope s_is_comers) .none kV13 dc13 pm13 an13 cd13 ct13), sl13⟩)
    (c13 : PySem.W.codeIn K cd13 "is_comers" = true)
    (k13 : PySem.W.keepIn K (.ref f13) = true)
    (a14 : PySem.W.nsIn K mainGlobals "line_of" = some (some (.ref f14)))
    (l14 : K.lookup f14 = some ⟨oc14, od14, .func (PySem.W.fnOf "line_of" "line_of" (defArgs s_line_of) (defBody s_line_of) (defScope s_line_of) .none kV14 dc14 pm14 an14 cd14 ct14), sl14⟩)
    (c14 : PySem.W.codeIn K cd14 "line_of" = true)
    (k14 : PySem.W.keepIn K (.ref f14) = true)
    (a15 : PySem.W.nsIn K mainGlobals "is_part" = some (some (.ref f15)))
    (l15 : K.lookup f15 = some ⟨oc15, od15, .func (PySem.W.fnOf "is_part" "is_part" (defArgs s_is_part) (defBody s_is_part) (defScope s_is_part) .none kV15 dc15 pm15 an15 cd15 ct15), sl15⟩)
    (c15 : PySem.W.codeIn K cd15 "is_part" = true)
    (k15 : PySem.W.keepIn K (.ref f15) = true)
    (a16 : PySem.W.nsIn K mainGlobals "is_string" = some (some (.ref f16)))
    (l16 : K.lookup f16 = some ⟨oc16, od16, .func (PySem.W.fnOf "is_string" "is_string" (defArgs s_is_string) (defBody s_is_string) (defScope s_is_string) .none kV16 dc16 pm16 an16 cd16 ct16), sl16⟩)
    (c16 : PySem.W.codeIn K cd16 "is_string" = true)
    (k16 : PySem.W.keepIn K (.ref f16) = true)
    (a17 : PySem.W.nsIn K mainGlobals "is_word" = some (some (.ref f17)))
    (l17 : K.lookup f17 = some ⟨oc17, od17, .func (PySem.W.fnOf "is_word" "is_word" (defArgs s_is_word) (defBody s_is_word) (defScope s_is_word) .none kV17 dc17 pm17 an17 cd17 ct17), sl17⟩)
    (c17 : PySem.W.codeIn K cd17 "is_word" = true)
    (k17 : PySem.W.keepIn K (.ref f17) = true)
    (a18 : PySem.W.nsIn K mainGlobals "is_line" = some (some (.ref f18)))
    (l18 : K.lookup f18 = some ⟨oc18, od18, .func (PySem.W.fnOf "is_line" "is_line" (defArgs s_is_line) (defBody s_is_line) (defScope s_is_line) .none kV18 dc18 pm18 an18 cd18 ct18), sl18⟩)
    (c18 : PySem.W.codeIn K cd18 "is_line" = true)
    (k18 : PySem.W.keepIn K (.ref f18) = true)
    (a19 : PySem.W.findIn K (.ref A0) "__init__" = some (some (.ref f19)))
    (n19 : PySem.W.isFn K (.ref f19) = true)
    (l19 : K.lookup f19 = some ⟨oc19, od19, .func (PySem.W.fnOf "__init__" "Book.__init__" (defArgs s_Book___init__) (defBody s_Book___init__) (defScope s_Book___init__) .none kV19 dc19 pm19 an19 cd19 ct19), sl19⟩)
    (c19 : PySem.W.codeIn K cd19 "Book.__init__" = true)
    (k19 : PySem.W.keepIn K (.ref f19) = true)
    {p20 : Addr} {rs20 : List Value} (a20 : PySem.W.findCls K (.ref A0) (.type "type") "read" = some (.get (.builtin "staticmethod.__get__") (.ref p20) .none (.ref A0)))
    (n20 : PySem.W.recIn K p20 "staticmethod" = some (.ref f20 :: rs20))
    (l20 : K.lookup f20 = some ⟨oc20, od20, .func (PySem.W.fnOf "read" "Book.read" (defArgs s_Book_read) (defBody s_Book_read) (defScope s_Book_read) .none kV20 dc20 pm20 an20 cd20 ct20), sl20⟩)
    (c20 : PySem.W.codeIn K cd20 "Book.read" = true)
    (k20 : PySem.W.keepIn K (.ref f20) = true)
    (a21 : PySem.W.nsIn K mainGlobals "_law_line_text" = some (some (.ref f21)))
    (l21 : K.lookup f21 = some ⟨oc21, od21, .func (PySem.W.fnOf "_law_line_text" "_law_line_text" (defArgs s__law_line_text) (defBody s__law_line_text) (defScope s__law_line_text) .none kV21 dc21 pm21 an21 cd21 ct21), sl21⟩)
    (c21 : PySem.W.codeIn K cd21 "_law_line_text" = true)
    (k21 : PySem.W.keepIn K (.ref f21) = true)
    (a22 : PySem.W.nsIn K mainGlobals "_law_book_text" = some (some (.ref f22)))
    (l22 : K.lookup f22 = some ⟨oc22, od22, .func (PySem.W.fnOf "_law_book_text" "_law_book_text" (defArgs s__law_book_text) (defBody s__law_book_text) (defScope s__law_book_text) .none kV22 dc22 pm22 an22 cd22 ct22), sl22⟩)
    (c22 : PySem.W.codeIn K cd22 "_law_book_text" = true)
    (k22 : PySem.W.keepIn K (.ref f22) = true)
    (a23 : PySem.W.nsIn K mainGlobals "_law_book" = some (some (.ref f23)))
    (l23 : K.lookup f23 = some ⟨oc23, od23, .func (PySem.W.fnOf "_law_book" "_law_book" (defArgs s__law_book) (defBody s__law_book) (defScope s__law_book) .none kV23 dc23 pm23 an23 cd23 ct23), sl23⟩)
    (c23 : PySem.W.codeIn K cd23 "_law_book" = true)
    (k23 : PySem.W.keepIn K (.ref f23) = true)
    (a24 : PySem.W.nsIn K mainGlobals "_law_same" = some (some (.ref f24)))
    (l24 : K.lookup f24 = some ⟨oc24, od24, .func (PySem.W.fnOf "_law_same" "_law_same" (defArgs s__law_same) (defBody s__law_same) (defScope s__law_same) .none kV24 dc24 pm24 an24 cd24 ct24), sl24⟩)
    (c24 : PySem.W.codeIn K cd24 "_law_same" = true)
    (k24 : PySem.W.keepIn K (.ref f24) = true)
    (a25 : PySem.W.findIn K (.ref A0) "lines" = some (some (.ref f25)))
    (n25 : PySem.W.isFn K (.ref f25) = true)
    (l25 : K.lookup f25 = some ⟨oc25, od25, .func (PySem.W.fnOf "lines" "Book.lines" (defArgs s_Book_lines) (defBody s_Book_lines) (defScope s_Book_lines) .none kV25 dc25 pm25 an25 cd25 ct25), sl25⟩)
    (c25 : PySem.W.codeIn K cd25 "Book.lines" = true)
    (k25 : PySem.W.keepIn K (.ref f25) = true)
    (a26 : PySem.W.nsIn K mainGlobals "is_number" = some (some (.ref f26)))
    (l26 : K.lookup f26 = some ⟨oc26, od26, .func (PySem.W.fnOf "is_number" "is_number" (defArgs s_is_number) (defBody s_is_number) (defScope s_is_number) .none kV26 dc26 pm26 an26 cd26 ct26), sl26⟩)
    (c26 : PySem.W.codeIn K cd26 "is_number" = true)
    (k26 : PySem.W.keepIn K (.ref f26) = true)
    (a27 : PySem.W.findIn K (.ref A0) "muted" = some (some (.ref f27)))
    (n27 : PySem.W.isFn K (.ref f27) = true)
    (l27 : K.lookup f27 = some ⟨oc27, od27, .func (PySem.W.fnOf "muted" "Book.muted" (defArgs s_Book_muted) (defBody s_Book_muted) (defScope s_Book_muted) .none kV27 dc27 pm27 an27 cd27 ct27), sl27⟩)
    (c27 : PySem.W.codeIn K cd27 "Book.muted" = true)
    (k27 : PySem.W.keepIn K (.ref f27) = true)
    (a28 : PySem.W.findIn K (.ref A0) "__eq__" = some (some (.ref f28)))
    (n28 : PySem.W.isFn K (.ref f28) = true)
    (l28 : K.lookup f28 = some ⟨oc28, od28, .func (PySem.W.fnOf "__eq__" "Book.__eq__" (defArgs s_Book___eq__) (defBody s_Book___eq__) (defScope s_Book___eq__) .none kV28 dc28 pm28 an28 cd28 ct28), sl28⟩)
    (c28 : PySem.W.codeIn K cd28 "Book.__eq__" = true)
    (k28 : PySem.W.keepIn K (.ref f28) = true)
    (a29 : PySem.W.nsIn K mainGlobals "_law_all_gaps" = some (some (.ref f29)))
    (l29 : K.lookup f29 = some ⟨oc29, od29, .func (PySem.W.fnOf "_law_all_gaps" "_law_all_gaps" (defArgs s__law_all_gaps) (defBody s__law_all_gaps) (defScope s__law_all_gaps) .none kV29 dc29 pm29 an29 cd29 ct29), sl29⟩)
    (c29 : PySem.W.codeIn K cd29 "_law_all_gaps" = true)
    (k29 : PySem.W.keepIn K (.ref f29) = true)
    (a30 : PySem.W.nsIn K mainGlobals "is_gap" = some (some (.ref f30)))
    (l30 : K.lookup f30 = some ⟨oc30, od30, .func (PySem.W.fnOf "is_gap" "is_gap" (defArgs s_is_gap) (defBody s_is_gap) (defScope s_is_gap) .none kV30 dc30 pm30 an30 cd30 ct30), sl30⟩)
    (c30 : PySem.W.codeIn K cd30 "is_gap" = true)
    (k30 : PySem.W.keepIn K (.ref f30) = true)
    (a31 : PySem.W.nsIn K mainGlobals "is_one" = some (some (.ref f31)))
    (l31 : K.lookup f31 = some ⟨oc31, od31, .func (PySem.W.fnOf "is_one" "is_one" (defArgs s_is_one) (defBody s_is_one) (defScope s_is_one) .none kV31 dc31 pm31 an31 cd31 ct31), sl31⟩)
    (c31 : PySem.W.codeIn K cd31 "is_one" = true)
    (k31 : PySem.W.keepIn K (.ref f31) = true)
    (a32 : PySem.W.nsIn K mainGlobals "takes" = some (some (.ref f32)))
    (l32 : K.lookup f32 = some ⟨oc32, od32, .func (PySem.W.fnOf "takes" "takes" (defArgs s_takes) (defBody s_takes) (defScope s_takes) .none kV32 dc32 pm32 an32 cd32 ct32), sl32⟩)
    (c32 : PySem.W.codeIn K cd32 "takes" = true)
    (k32 : PySem.W.keepIn K (.ref f32) = true)
    (a33 : PySem.W.findIn K (.ref A0) "line_at" = some (some (.ref f33)))
    (n33 : PySem.W.isFn K (.ref f33) = true)
    (l33 : K.lookup f33 = some ⟨oc33, od33, .func (PySem.W.fnOf "line_at" "Book.line_at" (defArgs s_Book_line_at) (defBody s_Book_line_at) (defScope s_Book_line_at) .none kV33 dc33 pm33 an33 cd33 ct33), sl33⟩)
    (c33 : PySem.W.codeIn K cd33 "Book.line_at" = true)
    (k33 : PySem.W.keepIn K (.ref f33) = true)
    (a34 : PySem.W.findIn K (.ref A0) "word" = some (some (.ref f34)))
    (n34 : PySem.W.isFn K (.ref f34) = true)
    (l34 : K.lookup f34 = some ⟨oc34, od34, .func (PySem.W.fnOf "word" "Book.word" (defArgs s_Book_word) (defBody s_Book_word) (defScope s_Book_word) .none kV34 dc34 pm34 an34 cd34 ct34), sl34⟩)
    (c34 : PySem.W.codeIn K cd34 "Book.word" = true)
    (k34 : PySem.W.keepIn K (.ref f34) = true)
    (a35 : PySem.W.nsIn K mainGlobals "_law_fits" = some (some (.ref f35)))
    (l35 : K.lookup f35 = some ⟨oc35, od35, .func (PySem.W.fnOf "_law_fits" "_law_fits" (defArgs s__law_fits) (defBody s__law_fits) (defScope s__law_fits) .none kV35 dc35 pm35 an35 cd35 ct35), sl35⟩)
    (c35 : PySem.W.codeIn K cd35 "_law_fits" = true)
    (k35 : PySem.W.keepIn K (.ref f35) = true)
    (a36 : PySem.W.nsIn K mainGlobals "_law_line_at" = some (some (.ref f36)))
    (l36 : K.lookup f36 = some ⟨oc36, od36, .func (PySem.W.fnOf "_law_line_at" "_law_line_at" (defArgs s__law_line_at) (defBody s__law_line_at) (defScope s__law_line_at) .none kV36 dc36 pm36 an36 cd36 ct36), sl36⟩)
    (c36 : PySem.W.codeIn K cd36 "_law_line_at" = true)
    (k36 : PySem.W.keepIn K (.ref f36) = true)
    (a37 : PySem.W.nsIn K mainGlobals "_law_word" = some (some (.ref f37)))
    (l37 : K.lookup f37 = some ⟨oc37, od37, .func (PySem.W.fnOf "_law_word" "_law_word" (defArgs s__law_word) (defBody s__law_word) (defScope s__law_word) .none kV37 dc37 pm37 an37 cd37 ct37), sl37⟩)
    (c37 : PySem.W.codeIn K cd37 "_law_word" = true)
    (k37 : PySem.W.keepIn K (.ref f37) = true)
    (a38 : PySem.W.nsIn K mainGlobals "_law_field" = some (some (.ref f38)))
    (l38 : K.lookup f38 = some ⟨oc38, od38, .func (PySem.W.fnOf "_law_field" "_law_field" (defArgs s__law_field) (defBody s__law_field) (defScope s__law_field) .none kV38 dc38 pm38 an38 cd38 ct38), sl38⟩)
    (c38 : PySem.W.codeIn K cd38 "_law_field" = true)
    (k38 : PySem.W.keepIn K (.ref f38) = true)
    (a39 : PySem.W.nsIn K mainGlobals "_law_try" = some (some (.ref f39)))
    (l39 : K.lookup f39 = some ⟨oc39, od39, .func (PySem.W.fnOf "_law_try" "_law_try" (defArgs s__law_try) (defBody s__law_try) (defScope s__law_try) .none kV39 dc39 pm39 an39 cd39 ct39), sl39⟩)
    (c39 : PySem.W.codeIn K cd39 "_law_try" = true)
    (k39 : PySem.W.keepIn K (.ref f39) = true)
    (a40 : PySem.W.nsIn K mainGlobals "_law_tries" = some (some (.ref f40)))
    (l40 : K.lookup f40 = some ⟨oc40, od40, .func (PySem.W.fnOf "_law_tries" "_law_tries" (defArgs s__law_tries) (defBody s__law_tries) (defScope s__law_tries) .none kV40 dc40 pm40 an40 cd40 ct40), sl40⟩)
    (c40 : PySem.W.codeIn K cd40 "_law_tries" = true)
    (k40 : PySem.W.keepIn K (.ref f40) = true)
    (a41 : PySem.W.nsIn K mainGlobals "law" = some (some (.ref f41)))
    (l41 : K.lookup f41 = some ⟨oc41, od41, .func (PySem.W.fnOf "law" "law" (defArgs s_law) (defBody s_law) (defScope s_law) .none kV41 dc41 pm41 an41 cd41 ct41), sl41⟩)
    (c41 : PySem.W.codeIn K cd41 "law" = true)
    (k41 : PySem.W.keepIn K (.ref f41) = true)
    (z_int : PySem.W.nsIn K mainGlobals "int" = some none)
    (z_list : PySem.W.nsIn K mainGlobals "list" = some none)
    (z_len : PySem.W.nsIn K mainGlobals "len" = some none)
    (z_abs : PySem.W.nsIn K mainGlobals "abs" = some none)
    (z_range : PySem.W.nsIn K mainGlobals "range" = some none)
    (z_isinstance : PySem.W.nsIn K mainGlobals "isinstance" = some none)
    (z_str : PySem.W.nsIn K mainGlobals "str" = some none)
    (z_all : PySem.W.nsIn K mainGlobals "all" = some none)
    (z_sorted : PySem.W.nsIn K mainGlobals "sorted" = some none)
    (z_set : PySem.W.nsIn K mainGlobals "set" = some none)
    (z_tuple : PySem.W.nsIn K mainGlobals "tuple" = some none)
    (z_enumerate : PySem.W.nsIn K mainGlobals "enumerate" = some none)
    (z_zip : PySem.W.nsIn K mainGlobals "zip" = some none)
    (z_bool : PySem.W.nsIn K mainGlobals "bool" = some none)
    (z_super : PySem.W.nsIn K mainGlobals "super" = some none)
    {t_LOWER : Tok} (q_LOWER : PySem.W.nsIn K mainGlobals "LOWER" = some (some (.str "abcdefghijklmnopqrstuvwxyz" t_LOWER)))
    {t_UPPER : Tok} (q_UPPER : PySem.W.nsIn K mainGlobals "UPPER" = some (some (.str "ABCDEFGHIJKLMNOPQRSTUVWXYZ" t_UPPER)))
    {t_MOST_WORD : Tok} (q_MOST_WORD : PySem.W.nsIn K mainGlobals "MOST_WORD" = some (some (.int 3 t_MOST_WORD)))
    {Pt cL gA1 gA2 gA3 : Addr} {ceL : Value} {ddL : Option Addr} {vsL : Array Value} {slL : Array (Option Value)} {gcd : ClassData}
    (u1_at : PySem.W.nsIn K mainGlobals "GapError" = some (some (.ref gA1)))
    (u1_sb : PySem.W.subIn K (.ref gA1) (.type "BaseException") = some true)
    (u1_is : PySem.W.isClsIn K gA1 = true)
    (u1_ty : PySem.W.typeIn K (.ref gA1) = some (.type "type"))
    (u2_at : PySem.W.nsIn K mainGlobals "Missing" = some (some (.ref gA2)))
    (u2_sb : PySem.W.subIn K (.ref gA2) (.type "BaseException") = some true)
    (u2_is : PySem.W.isClsIn K gA2 = true)
    (u2_ty : PySem.W.typeIn K (.ref gA2) = some (.type "type"))
    (u3_at : PySem.W.nsIn K mainGlobals "NothingLeft" = some (some (.ref gA3)))
    (u3_sb : PySem.W.subIn K (.ref gA3) (.type "BaseException") = some true)
    (u3_is : PySem.W.isClsIn K gA3 = true)
    (u3_ty : PySem.W.typeIn K (.ref gA3) = some (.type "type"))
    (u_cl : PySem.W.clsIn K gA1 = some gcd)
    (u_mro : gcd.mro = [.ref gA1, .type "ValueError", .type "Exception", .type "BaseException", .type "object"])
    (u_in : PySem.W.findIn K (.ref gA1) "__init__" = some (some (.builtin "ValueError.__init__")))
    (u_opq : PySem.W.nsIn K cStatics "thirdparty.any" = some none)
    (u_top : (l.prog.main.scope.names.lookup ("super" : Str)).isSome = false)
    (w_ll : cd41 = .ref cL)
    (w_lc : K.lookup cL = some ⟨ceL, ddL, .fields vsL, slL⟩)
    (w_v : vsL[11]? = some (.ref Pt))
    (w_lp : K.lookup Pt = none)
    (w_hd : PySem.W.codeHdIn K cL Pt = true)
    {nm18 q18 : Str} {N18 fI18 cc18 cda18 : Addr} {bs18 sub18 : List Value} {sn18 : List Str} {ab18 : Bool} {col18 : Option Bool} {dx18 ody18 any18 cdd18 cld18 : Option Addr} {k018 k118 k218 k318 k518 : Option Value} {ocy18 docy18 pmy18 cty18 ccl18 cl18 : Value} {sly18 ccs18 csl18 : Array (Option Value)} {vv18 : Array Value} {file18 : Str} {tf18 : Tok}
    (x18_at : PySem.W.nsIn K mainGlobals "InvalidKinds" = some (some (.ref A18)))
    (x18_lk : K.lookup A18 = some (excClassObj nm18 q18 A18 N18 bs18 [.ref gA1, .type "ValueError", .type "Exception", .type "BaseException", .type "object"] true sn18 sub18 ab18 col18 dx18 k018 k118 k218 k318 k518 "ValueError.__new__"))
    (x18_sa : PySem.W.findIn K (.ref A18) "__setattr__" = some (some (.builtin "object.__setattr__")))
    (x18_ga : PySem.W.findIn K (.ref A18) "__getattribute__" = some (some (.builtin "BaseException.__getattribute__")))
    (x18_gg : PySem.W.findIn K (.ref A18) "__getattr__" = some none)
    (x18_ex : PySem.W.subIn K (.ref A18) (.type "BaseException") = some true)
    (x18_ty : PySem.W.typeIn K (.ref A18) = some (.type "type"))
    (x18_kp : PySem.W.keepIn K (.ref A18) = true)
    (x18_hd : PySem.W.hasDictIn K A18 = true)
    (x18_n1 : PySem.W.findIn K (.ref A18) "code" = some none)
    (x18_n2 : PySem.W.findIn K (.ref A18) "given" = some none)
    (x18_in : PySem.W.findIn K (.ref A18) "__init__" = some (some (.ref fI18)))
    (x18_ti : PySem.W.typeIn K (.ref fI18) = some (.type "function"))
    (x18_fn : K.lookup fI18 = some ⟨ocy18, ody18, .func (iniFn "InvalidKinds.__init__" (defArgs sx_InvalidKinds) (defBody sx_InvalidKinds) (defScope sx_InvalidKinds) cc18 .none .none docy18 pmy18 any18 (.ref cda18) cty18), sly18⟩)
    (x18_qn : PySem.W.codeIn K (.ref cda18) "InvalidKinds.__init__" = true)
    (x18_co : K.lookup cda18 = some ⟨ccl18, cdd18, .fields vv18, ccs18⟩)
    (x18_c2 : vv18[2]? = some (.str file18 tf18))
    (x18_cf : ((l.prog.main.file : Str) == file18) = true)
    (x18_ce : K.lookup cc18 = some ⟨cl18, cld18, .cell (some (.ref A18)), csl18⟩)
    (x18_is : PySem.W.isClsIn K A18 = true)
    (x18_mr : PySem.W.mroIn K A18 (.ref A18) = some true)
    (x18_sv : PySem.W.subIn K (.ref A18) (.type "ValueError") = some true)
    (x18_s1 : PySem.W.subIn K (.ref A18) (.ref gA1) = some true)
    (x18_s2 : PySem.W.subIn K (.ref A18) (.ref gA2) = some false)
    (x18_s3 : PySem.W.subIn K (.ref A18) (.ref gA3) = some false)
    {nm19 q19 : Str} {N19 fI19 cc19 cda19 : Addr} {bs19 sub19 : List Value} {sn19 : List Str} {ab19 : Bool} {col19 : Option Bool} {dx19 ody19 any19 cdd19 cld19 : Option Addr} {k019 k119 k219 k319 k519 : Option Value} {ocy19 docy19 pmy19 cty19 ccl19 cl19 : Value} {sly19 ccs19 csl19 : Array (Option Value)} {vv19 : Array Value} {file19 : Str} {tf19 : Tok}
    (x19_at : PySem.W.nsIn K mainGlobals "InvalidComers" = some (some (.ref A19)))
    (x19_lk : K.lookup A19 = some (excClassObj nm19 q19 A19 N19 bs19 [.ref gA1, .type "ValueError", .type "Exception", .type "BaseException", .type "object"] true sn19 sub19 ab19 col19 dx19 k019 k119 k219 k319 k519 "ValueError.__new__"))
    (x19_sa : PySem.W.findIn K (.ref A19) "__setattr__" = some (some (.builtin "object.__setattr__")))
    (x19_ga : PySem.W.findIn K (.ref A19) "__getattribute__" = some (some (.builtin "BaseException.__getattribute__")))
    (x19_gg : PySem.W.findIn K (.ref A19) "__getattr__" = some none)
    (x19_ex : PySem.W.subIn K (.ref A19) (.type "BaseException") = some true)
    (x19_ty : PySem.W.typeIn K (.ref A19) = some (.type "type"))
    (x19_kp : PySem.W.keepIn K (.ref A19) = true)
    (x19_hd : PySem.W.hasDictIn K A19 = true)
    (x19_n1 : PySem.W.findIn K (.ref A19) "code" = some none)
    (x19_n2 : PySem.W.findIn K (.ref A19) "given" = some none)
    (x19_in : PySem.W.findIn K (.ref A19) "__init__" = some (some (.ref fI19)))
    (x19_ti : PySem.W.typeIn K (.ref fI19) = some (.type "function"))
    (x19_fn : K.lookup fI19 = some ⟨ocy19, ody19, .func (iniFn "InvalidComers.__init__" (defArgs sx_InvalidComers) (defBody sx_InvalidComers) (defScope sx_InvalidComers) cc19 .none .none docy19 pmy19 any19 (.ref cda19) cty19), sly19⟩)
    (x19_qn : PySem.W.codeIn K (.ref cda19) "InvalidComers.__init__" = true)
    (x19_co : K.lookup cda19 = some ⟨ccl19, cdd19, .fields vv19, ccs19⟩)
    (x19_c2 : vv19[2]? = some (.str file19 tf19))
    (x19_cf : ((l.prog.main.file : Str) == file19) = true)
    (x19_ce : K.lookup cc19 = some ⟨cl19, cld19, .cell (some (.ref A19)), csl19⟩)
    (x19_is : PySem.W.isClsIn K A19 = true)
    (x19_mr : PySem.W.mroIn K A19 (.ref A19) = some true)
    (x19_sv : PySem.W.subIn K (.ref A19) (.type "ValueError") = some true)
    (x19_s1 : PySem.W.subIn K (.ref A19) (.ref gA1) = some true)
    (x19_s2 : PySem.W.subIn K (.ref A19) (.ref gA2) = some false)
    (x19_s3 : PySem.W.subIn K (.ref A19) (.ref gA3) = some false)
    {nm20 q20 : Str} {N20 fI20 cc20 cda20 : Addr} {bs20 sub20 : List Value} {sn20 : List Str} {ab20 : Bool} {col20 : Option Bool} {dx20 ody20 any20 cdd20 cld20 : Option Addr} {k020 k120 k220 k320 k520 : Option Value} {ocy20 docy20 pmy20 cty20 ccl20 cl20 : Value} {sly20 ccs20 csl20 : Array (Option Value)} {vv20 : Array Value} {file20 : Str} {tf20 : Tok}
    (x20_at : PySem.W.nsIn K mainGlobals "InvalidLine" = some (some (.ref A20)))
    (x20_lk : K.lookup A20 = some (excClassObj nm20 q20 A20 N20 bs20 [.ref gA1, .type "ValueError", .type "Exception", .type "BaseException", .type "object"] true sn20 sub20 ab20 col20 dx20 k020 k120 k220 k320 k520 "ValueError.__new__"))
    (x20_sa : PySem.W.findIn K (.ref A20) "__setattr__" = some (some (.builtin "object.__setattr__")))
    (x20_ga : PySem.W.findIn K (.ref A20) "__getattribute__" = some (some (.builtin "BaseException.__getattribute__")))
    (x20_gg : PySem.W.findIn K (.ref A20) "__getattr__" = some none)
    (x20_ex : PySem.W.subIn K (.ref A20) (.type "BaseException") = some true)
    (x20_ty : PySem.W.typeIn K (.ref A20) = some (.type "type"))
    (x20_kp : PySem.W.keepIn K (.ref A20) = true)
    (x20_hd : PySem.W.hasDictIn K A20 = true)
    (x20_n1 : PySem.W.findIn K (.ref A20) "code" = some none)
    (x20_n2 : PySem.W.findIn K (.ref A20) "at" = some none)
    (x20_in : PySem.W.findIn K (.ref A20) "__init__" = some (some (.ref fI20)))
    (x20_ti : PySem.W.typeIn K (.ref fI20) = some (.type "function"))
    (x20_fn : K.lookup fI20 = some ⟨ocy20, ody20, .func (iniFn "InvalidLine.__init__" (defArgs sx_InvalidLine) (defBody sx_InvalidLine) (defScope sx_InvalidLine) cc20 .none .none docy20 pmy20 any20 (.ref cda20) cty20), sly20⟩)
    (x20_qn : PySem.W.codeIn K (.ref cda20) "InvalidLine.__init__" = true)
    (x20_co : K.lookup cda20 = some ⟨ccl20, cdd20, .fields vv20, ccs20⟩)
    (x20_c2 : vv20[2]? = some (.str file20 tf20))
    (x20_cf : ((l.prog.main.file : Str) == file20) = true)
    (x20_ce : K.lookup cc20 = some ⟨cl20, cld20, .cell (some (.ref A20)), csl20⟩)
    (x20_is : PySem.W.isClsIn K A20 = true)
    (x20_mr : PySem.W.mroIn K A20 (.ref A20) = some true)
    (x20_sv : PySem.W.subIn K (.ref A20) (.type "ValueError") = some true)
    (x20_s1 : PySem.W.subIn K (.ref A20) (.ref gA1) = some true)
    (x20_s2 : PySem.W.subIn K (.ref A20) (.ref gA2) = some false)
    (x20_s3 : PySem.W.subIn K (.ref A20) (.ref gA3) = some false)
    : LamX.LawAtS l w K CX0 10 63 "_law_script" mg fa h := by
  have e := hfa.symm.trans (PySem.W.mg_of X G a41)
  cases e
  have x0_cl : Cls K A0 := ⟨x0_pg, x0_hd, x0_po, x0_sa⟩
  have T : ∀ (cl : List (Str × Addr)) (low : Hp), Txt K mg (cfX K (tabA A0 A18 A19 A20) tabN [(Pt, lawQ)] cl lamT low) := fun cl low => {
    b_int := PySem.W.mg_none_of X G z_int
    b_list := PySem.W.mg_none_of X G z_list
    b_len := PySem.W.mg_none_of X G z_len
    b_abs := PySem.W.mg_none_of X G z_abs
    b_range := PySem.W.mg_none_of X G z_range
    b_isinstance := PySem.W.mg_none_of X G z_isinstance
    b_str := PySem.W.mg_none_of X G z_str
    b_all := PySem.W.mg_none_of X G z_all
    b_sorted := PySem.W.mg_none_of X G z_sorted
    b_set := PySem.W.mg_none_of X G z_set
    b_tuple := PySem.W.mg_none_of X G z_tuple
    b_enumerate := PySem.W.mg_none_of X G z_enumerate
    b_zip := PySem.W.mg_none_of X G z_zip
    b_bool := PySem.W.mg_none_of X G z_bool
    b_super := PySem.W.mg_none_of X G z_super
    g_LOWER := ⟨_, PySem.W.mg_of X G q_LOWER⟩
    g_UPPER := ⟨_, PySem.W.mg_of X G q_UPPER⟩
    g_MOST_WORD := ⟨_, PySem.W.mg_of X G q_MOST_WORD⟩
    k_Book := PySem.W.mg_of X G x0_at
    n_Book := rfl
    f_Book_kinds := ⟨x0_cl, x0_na_kinds, show ixOf "kinds" (tabN 0) = some 0 by decide +kernel⟩
    f_Book_comers := ⟨x0_cl, x0_na_comers, show ixOf "comers" (tabN 0) = some 1 by decide +kernel⟩
    f_Book_own_lines := ⟨x0_cl, x0_na_own_lines, show ixOf "own_lines" (tabN 0) = some 2 by decide +kernel⟩
    v_Book_MOST := ⟨_, _, ⟨x0_rd, x0_ga⟩, ⟨x0_cv_MOST, ⟨_, rfl⟩⟩⟩
    nf_Book := ⟨x0_nf_non, x0_nf_bl, x0_nf_int, x0_nf_str, x0_nf_lst, x0_nf_tup⟩
    ne_Book := ⟨x0_ne, x0_ob⟩
    is_Book := isC_of x0_lk x0_cl x0_ha x0_hn x0_tk x0_ob
    hn := fun c => by
      show (tabN c).length < 1000
      unfold tabN
      split <;> decide }
  have N1 : ExN K gA1 := ⟨u1_sb, u1_is, u1_ty⟩
  have N2 : ExN K gA2 := ⟨u2_sb, u2_is, u2_ty⟩
  have N3 : ExN K gA3 := ⟨u3_sb, u3_is, u3_ty⟩
  have R_InvalidKinds : ExRow l.prog K mg "InvalidKinds" "InvalidKinds.__init__" sx_InvalidKinds A18 fI18 cc18 cda18 "given" := {
    at_ := PySem.W.mg_of X G x18_at
    cls := ⟨_, _, _, _, _, _, _, _, _, _, _, _, _, _, _, x18_lk, rfl⟩
    sa := x18_sa, ga := x18_ga, gg := x18_gg, exC := x18_ex, tyC := x18_ty, kC := x18_kp, hdC := x18_hd, n1 := x18_n1, n2 := x18_n2, iC := x18_in, tI := x18_ti
    fn := ⟨_, _, _, _, _, _, _, _, _, x18_fn, fun us hl => match us, hl with | [_, _], _ => rfl⟩
    qn := x18_qn, code := ⟨_, _, _, _, _, _, x18_co, x18_c2, x18_cf⟩, cell := ⟨_, _, _, x18_ce⟩, isC := x18_is, mro := x18_mr, sub := x18_sv
    sup := (sup_first (cls_lk x18_lk rfl) rfl u_cl u_mro).trans u_in }
  have Z_InvalidKinds : ∀ (base : Heap) (cl : List (Str × Addr)) (low : Hp), ExcOk l.prog w K mg base (cfX K (tabA A0 A18 A19 A20) tabN [(Pt, lawQ)] cl lamT low) "InvalidKinds" 18 [73, 110, 118, 97, 108, 105, 100, 75, 105, 110, 100, 115] "given" 1 := fun base cl low => exc_InvalidKinds (C := (cfX K (tabA A0 A18 A19 A20) tabN [(Pt, lawQ)] cl lamT low)) R_InvalidKinds u_top u_opq (PySem.W.mg_none_of X G z_super) rfl
  have R_InvalidComers : ExRow l.prog K mg "InvalidComers" "InvalidComers.__init__" sx_InvalidComers A19 fI19 cc19 cda19 "given" := {
    at_ := PySem.W.mg_of X G x19_at
    cls := ⟨_, _, _, _, _, _, _, _, _, _, _, _, _, _, _, x19_lk, rfl⟩
    sa := x19_sa, ga := x19_ga, gg := x19_gg, exC := x19_ex, tyC := x19_ty, kC := x19_kp, hdC := x19_hd, n1 := x19_n1, n2 := x19_n2, iC := x19_in, tI := x19_ti
    fn := ⟨_, _, _, _, _, _, _, _, _, x19_fn, fun us hl => match us, hl with | [_, _], _ => rfl⟩
    qn := x19_qn, code := ⟨_, _, _, _, _, _, x19_co, x19_c2, x19_cf⟩, cell := ⟨_, _, _, x19_ce⟩, isC := x19_is, mro := x19_mr, sub := x19_sv
    sup := (sup_first (cls_lk x19_lk rfl) rfl u_cl u_mro).trans u_in }
  have Z_InvalidComers : ∀ (base : Heap) (cl : List (Str × Addr)) (low : Hp), ExcOk l.prog w K mg base (cfX K (tabA A0 A18 A19 A20) tabN [(Pt, lawQ)] cl lamT low) "InvalidComers" 19 [73, 110, 118, 97, 108, 105, 100, 67, 111, 109, 101, 114, 115] "given" 1 := fun base cl low => exc_InvalidComers (C := (cfX K (tabA A0 A18 A19 A20) tabN [(Pt, lawQ)] cl lamT low)) R_InvalidComers u_top u_opq (PySem.W.mg_none_of X G z_super) rfl
  have R_InvalidLine : ExRow l.prog K mg "InvalidLine" "InvalidLine.__init__" sx_InvalidLine A20 fI20 cc20 cda20 "at" := {
    at_ := PySem.W.mg_of X G x20_at
    cls := ⟨_, _, _, _, _, _, _, _, _, _, _, _, _, _, _, x20_lk, rfl⟩
    sa := x20_sa, ga := x20_ga, gg := x20_gg, exC := x20_ex, tyC := x20_ty, kC := x20_kp, hdC := x20_hd, n1 := x20_n1, n2 := x20_n2, iC := x20_in, tI := x20_ti
    fn := ⟨_, _, _, _, _, _, _, _, _, x20_fn, fun us hl => match us, hl with | [_, _], _ => rfl⟩
    qn := x20_qn, code := ⟨_, _, _, _, _, _, x20_co, x20_c2, x20_cf⟩, cell := ⟨_, _, _, x20_ce⟩, isC := x20_is, mro := x20_mr, sub := x20_sv
    sup := (sup_first (cls_lk x20_lk rfl) rfl u_cl u_mro).trans u_in }
  have Z_InvalidLine : ∀ (base : Heap) (cl : List (Str × Addr)) (low : Hp), ExcOk l.prog w K mg base (cfX K (tabA A0 A18 A19 A20) tabN [(Pt, lawQ)] cl lamT low) "InvalidLine" 20 [73, 110, 118, 97, 108, 105, 100, 76, 105, 110, 101] "at" 1 := fun base cl low => exc_InvalidLine (C := (cfX K (tabA A0 A18 A19 A20) tabN [(Pt, lawQ)] cl lamT low)) R_InvalidLine u_top u_opq (PySem.W.mg_none_of X G z_super) rfl
  have hE : ∀ c, isE c = true → c = 18 ∨ c = 19 ∨ c = 20 := fun c h => by
    unfold isE at h
    split at h <;> simp_all
  have EX : ∀ (cl : List (Str × Addr)) (low : Hp), Excs K (cfX K (tabA A0 A18 A19 A20) tabN [(Pt, lawQ)] cl lamT low) [.ref gA1, .ref gA2, .ref gA3] isE := fun cl low => ⟨fun c h => by
    rcases hE c h with rfl | rfl | rfl
    · exact exm_three N1 N2 N3 x18_s1 x18_s2 x18_s3 rfl
    · exact exm_three N1 N2 N3 x19_s1 x19_s2 x19_s3 rfl
    · exact exm_three N1 N2 N3 x20_s1 x20_s2 x20_s3 rfl, fun c h => by
    rcases hE c h with rfl | rfl | rfl
    · exact R_InvalidKinds.F
    · exact R_InvalidComers.F
    · exact R_InvalidLine.F, fun c h => by
    rcases hE c h with rfl | rfl | rfl
    · exact R_InvalidKinds.no
    · exact R_InvalidComers.no
    · exact R_InvalidLine.no⟩
  have F1 := fun_mk (st := s__law_open) l1 c1 k1
  have F2 := fun_mk (st := s__law_draw) l2 c2 k2
  have F3 := fun_mk (st := s__law_letters) l3 c3 k3
  have F4 := fun_mk (st := s__law_some_comers) l4 c4 k4
  have F5 := fun_mk (st := s__law_some_kinds) l5 c5 k5
  have F6 := fun_mk (st := s__law_part) l6 c6 k6
  have F7 := fun_mk (st := s__law_of) l7 c7 k7
  have F8 := fun_mk (st := s__law_string) l8 c8 k8
  have F9 := fun_mk (st := s__law_line) l9 c9 k9
  have F10 := fun_mk (st := s__law_some_book) l10 c10 k10
  have F11 := fun_mk (st := s_is_rising) l11 c11 k11
  have F12 := fun_mk (st := s_is_kinds) l12 c12 k12
  have F13 := fun_mk (st := s_is_comers) l13 c13 k13
  have F14 := fun_mk (st := s_line_of) l14 c14 k14
  have F15 := fun_mk (st := s_is_part) l15 c15 k15
  have F16 := fun_mk (st := s_is_string) l16 c16 k16
  have F17 := fun_mk (st := s_is_word) l17 c17 k17
  have F18 := fun_mk (st := s_is_line) l18 c18 k18
  have F20 := fun_mk (st := s_Book_read) l20 c20 k20
  have F21 := fun_mk (st := s__law_line_text) l21 c21 k21
  have F22 := fun_mk (st := s__law_book_text) l22 c22 k22
  have F23 := fun_mk (st := s__law_book) l23 c23 k23
  have F24 := fun_mk (st := s__law_same) l24 c24 k24
  have F25 := fun_mk (st := s_Book_lines) l25 c25 k25
  have F26 := fun_mk (st := s_is_number) l26 c26 k26
  have F28 := fun_mk (st := s_Book___eq__) l28 c28 k28
  have F29 := fun_mk (st := s__law_all_gaps) l29 c29 k29
  have F30 := fun_mk (st := s_is_gap) l30 c30 k30
  have F31 := fun_mk (st := s_is_one) l31 c31 k31
  have F32 := fun_mk (st := s_takes) l32 c32 k32
  have F33 := fun_mk (st := s_Book_line_at) l33 c33 k33
  have F34 := fun_mk (st := s_Book_word) l34 c34 k34
  have F35 := fun_mk (st := s__law_fits) l35 c35 k35
  have F36 := fun_mk (st := s__law_line_at) l36 c36 k36
  have F37 := fun_mk (st := s__law_word) l37 c37 k37
  have F38 := fun_mk (st := s__law_field) l38 c38 k38
  have F39 := fun_mk (st := s__law_try) l39 c39 k39
  have F40 := fun_mk (st := s__law_tries) l40 c40 k40
  have F41 := fun_mk (st := s_law) l41 c41 k41
  have hK : ∀ (cl : List (Str × Addr)) (low : Hp), (cfX K (tabA A0 A18 A19 A20) tabN [(Pt, lawQ)] cl lamT low).K = K := fun _ _ => rfl
  have b1 := F1.binds (ps := ["_law_script"]) fun _ _ _ _ _ _ us hl => match us, hl with | [_], _ => rfl
  have b2 := F2.binds (ps := ["_law_bag", "_law_many"]) fun _ _ _ _ _ _ us hl => match us, hl with | [_, _], _ => rfl
  have b3 := F3.binds (ps := ["_law_bag", "_law_letters_here", "_law_many"]) fun _ _ _ _ _ _ us hl => match us, hl with | [_, _, _], _ => rfl
  have b4 := F4.binds (ps := ["_law_bag", "_law_most"]) fun _ _ _ _ _ _ us hl => match us, hl with | [_, _], _ => rfl
  have b5 := F5.binds (ps := ["_law_bag", "_law_most"]) fun _ _ _ _ _ _ us hl => match us, hl with | [_, _], _ => rfl
  have b6 := F6.binds (ps := ["_law_bag", "_law_letters_here"]) fun _ _ _ _ _ _ us hl => match us, hl with | [_, _], _ => rfl
  have b7 := F7.binds (ps := ["_law_bag", "_law_things"]) fun _ _ _ _ _ _ us hl => match us, hl with | [_, _], _ => rfl
  have b8 := F8.binds (ps := ["_law_bag", "_law_kinds", "_law_most"]) fun _ _ _ _ _ _ us hl => match us, hl with | [_, _, _], _ => rfl
  have b9 := F9.binds (ps := ["_law_bag", "_law_kinds", "_law_comers", "_law_most"]) fun _ _ _ _ _ _ us hl => match us, hl with | [_, _, _, _], _ => rfl
  have b10 := F10.binds (ps := ["_law_bag", "_law_sizes"]) fun _ _ _ _ _ _ us hl => match us, hl with | [_, _], _ => rfl
  have b11 := F11.binds (ps := ["value", "letters", "most"]) fun _ _ _ _ _ _ us hl => match us, hl with | [_, _, _], _ => rfl
  have b12 := F12.binds (ps := ["value"]) fun _ _ _ _ _ _ us hl => match us, hl with | [_], _ => rfl
  have b13 := F13.binds (ps := ["value"]) fun _ _ _ _ _ _ us hl => match us, hl with | [_], _ => rfl
  have b14 := F14.binds (ps := ["row"]) fun _ _ _ _ _ _ us hl => match us, hl with | [_], _ => rfl
  have b15 := F15.binds (ps := ["value", "letters"]) fun _ _ _ _ _ _ us hl => match us, hl with | [_, _], _ => rfl
  have b16 := F16.binds (ps := ["value", "kinds"]) fun _ _ _ _ _ _ us hl => match us, hl with | [_, _], _ => rfl
  have b17 := F17.binds (ps := ["value", "kinds"]) fun _ _ _ _ _ _ us hl => match us, hl with | [_, _], _ => rfl
  have b18 := F18.binds (ps := ["value", "kinds", "comers"]) fun _ _ _ _ _ _ us hl => match us, hl with | [_, _, _], _ => rfl
  have b20 := F20.binds (ps := ["text"]) fun _ _ _ _ _ _ us hl => match us, hl with | [_], _ => rfl
  have b21 := F21.binds (ps := ["_law_row"]) fun _ _ _ _ _ _ us hl => match us, hl with | [_], _ => rfl
  have b22 := F22.binds (ps := ["_law_spec"]) fun _ _ _ _ _ _ us hl => match us, hl with | [_], _ => rfl
  have b23 := F23.binds (ps := ["_law_spec"]) fun _ _ _ _ _ _ us hl => match us, hl with | [_], _ => rfl
  have b24 := F24.binds (ps := ["_law_found", "_law_due"]) fun _ _ _ _ _ _ us hl => match us, hl with | [_, _], _ => rfl
  have b25 := F25.binds (ps := ["self"]) fun _ _ _ _ _ _ us hl => match us, hl with | [_], _ => rfl
  have b26 := F26.binds (ps := ["value", "least", "most"]) fun _ _ _ _ _ _ us hl => match us, hl with | [_, _, _], _ => rfl
  have b28 := F28.binds (ps := ["self", "other"]) fun _ _ _ _ _ _ us hl => match us, hl with | [_, _], _ => rfl
  have b29 := F29.binds (ps := ["_law_kinds"]) fun _ _ _ _ _ _ us hl => match us, hl with | [_], _ => rfl
  have b30 := F30.binds (ps := ["value", "kinds"]) fun _ _ _ _ _ _ us hl => match us, hl with | [_, _], _ => rfl
  have b31 := F31.binds (ps := ["value", "letters"]) fun _ _ _ _ _ _ us hl => match us, hl with | [_, _], _ => rfl
  have b32 := F32.binds (ps := ["part", "letter"]) fun _ _ _ _ _ _ us hl => match us, hl with | [_, _], _ => rfl
  have b33 := F33.binds (ps := ["self", "gap", "comer"]) fun _ _ _ _ _ _ us hl => match us, hl with | [_, _, _], _ => rfl
  have b34 := F34.binds (ps := ["self", "gap", "comer"]) fun _ _ _ _ _ _ us hl => match us, hl with | [_, _, _], _ => rfl
  have b35 := F35.binds (ps := ["_law_part_here", "_law_letter"]) fun _ _ _ _ _ _ us hl => match us, hl with | [_, _], _ => rfl
  have b36 := F36.binds (ps := ["_law_spec", "_law_gap", "_law_comer"]) fun _ _ _ _ _ _ us hl => match us, hl with | [_, _, _], _ => rfl
  have b37 := F37.binds (ps := ["_law_spec", "_law_gap", "_law_comer"]) fun _ _ _ _ _ _ us hl => match us, hl with | [_, _, _], _ => rfl
  have b38 := F38.binds (ps := ["_law_e"]) fun _ _ _ _ _ _ us hl => match us, hl with | [_], _ => rfl
  have b39 := F39.binds (ps := ["_law_ask"]) fun _ _ _ _ _ _ us hl => match us, hl with | [_], _ => rfl
  have b40 := F40.binds (ps := ["_law_asks"]) fun _ _ _ _ _ _ us hl => match us, hl with | [_], _ => rfl
  have G__law_open : ∀ (base : Heap) (cl : List (Str × Addr)) (low : Hp), Callee l.prog w K mg base CX0 (cfX K (tabA A0 A18 A19 A20) tabN [(Pt, lawQ)] cl lamT low) "_law_open" 1 1 m__law_open := fun base cl low => callee_mk F1 (ok__law_open (hK cl low) (T cl low)  F1) (PySem.W.mg_of X G a1) b1
  have G__law_draw : ∀ (base : Heap) (cl : List (Str × Addr)) (low : Hp), Callee l.prog w K mg base CX0 (cfX K (tabA A0 A18 A19 A20) tabN [(Pt, lawQ)] cl lamT low) "_law_draw" 1 2 m__law_draw := fun base cl low => callee_mk F2 (ok__law_draw (hK cl low) (T cl low)  F2) (PySem.W.mg_of X G a2) b2
  have G__law_letters : ∀ (base : Heap) (cl : List (Str × Addr)) (low : Hp), Callee l.prog w K mg base CX0 (cfX K (tabA A0 A18 A19 A20) tabN [(Pt, lawQ)] cl lamT low) "_law_letters" 2 3 m__law_letters := fun base cl low => callee_mk F3 (ok__law_letters (hK cl low) (T cl low) (G__law_draw base cl low) F3) (PySem.W.mg_of X G a3) b3
  have G__law_some_comers : ∀ (base : Heap) (cl : List (Str × Addr)) (low : Hp), Callee l.prog w K mg base CX0 (cfX K (tabA A0 A18 A19 A20) tabN [(Pt, lawQ)] cl lamT low) "_law_some_comers" 3 2 m__law_some_comers := fun base cl low => callee_mk F4 (ok__law_some_comers (hK cl low) (T cl low) (G__law_letters base cl low) (G__law_draw base cl low) F4) (PySem.W.mg_of X G a4) b4
  have G__law_some_kinds : ∀ (base : Heap) (cl : List (Str × Addr)) (low : Hp), Callee l.prog w K mg base CX0 (cfX K (tabA A0 A18 A19 A20) tabN [(Pt, lawQ)] cl lamT low) "_law_some_kinds" 3 2 m__law_some_kinds := fun base cl low => callee_mk F5 (ok__law_some_kinds (hK cl low) (T cl low) (G__law_letters base cl low) (G__law_draw base cl low) F5) (PySem.W.mg_of X G a5) b5
  have G__law_part : ∀ (base : Heap) (cl : List (Str × Addr)) (low : Hp), Callee l.prog w K mg base CX0 (cfX K (tabA A0 A18 A19 A20) tabN [(Pt, lawQ)] cl lamT low) "_law_part" 2 2 m__law_part := fun base cl low => callee_mk F6 (ok__law_part (hK cl low) (T cl low) (G__law_draw base cl low) F6) (PySem.W.mg_of X G a6) b6
  have G__law_of : ∀ (base : Heap) (cl : List (Str × Addr)) (low : Hp), Callee l.prog w K mg base CX0 (cfX K (tabA A0 A18 A19 A20) tabN [(Pt, lawQ)] cl lamT low) "_law_of" 2 2 m__law_of := fun base cl low => callee_mk F7 (ok__law_of (hK cl low) (T cl low) (G__law_draw base cl low) F7) (PySem.W.mg_of X G a7) b7
  have G__law_string : ∀ (base : Heap) (cl : List (Str × Addr)) (low : Hp), Callee l.prog w K mg base CX0 (cfX K (tabA A0 A18 A19 A20) tabN [(Pt, lawQ)] cl lamT low) "_law_string" 3 3 m__law_string := fun base cl low => callee_mk F8 (ok__law_string (hK cl low) (T cl low) (G__law_draw base cl low) (G__law_of base cl low) F8) (PySem.W.mg_of X G a8) b8
  have G__law_line : ∀ (base : Heap) (cl : List (Str × Addr)) (low : Hp), Callee l.prog w K mg base CX0 (cfX K (tabA A0 A18 A19 A20) tabN [(Pt, lawQ)] cl lamT low) "_law_line" 4 4 m__law_line := fun base cl low => callee_mk F9 (ok__law_line (hK cl low) (T cl low) (G__law_part base cl low) (G__law_string base cl low) F9) (PySem.W.mg_of X G a9) b9
  have G__law_some_book : ∀ (base : Heap) (cl : List (Str × Addr)) (low : Hp), Callee l.prog w K mg base CX0 (cfX K (tabA A0 A18 A19 A20) tabN [(Pt, lawQ)] cl lamT low) "_law_some_book" 5 2 m__law_some_book := fun base cl low => callee_mk F10 (ok__law_some_book (hK cl low) (T cl low) (G__law_some_comers base cl low) (G__law_some_kinds base cl low) (G__law_draw base cl low) (G__law_line base cl low) (G__law_of base cl low) F10) (PySem.W.mg_of X G a10) b10
  have G_is_rising : ∀ (base : Heap) (cl : List (Str × Addr)) (low : Hp), Callee l.prog w K mg base CX0 (cfX K (tabA A0 A18 A19 A20) tabN [(Pt, lawQ)] cl lamT low) "is_rising" 1 3 m_is_rising := fun base cl low => callee_mk F11 (ok_is_rising (hK cl low) (T cl low)  F11) (PySem.W.mg_of X G a11) b11
  have G_is_kinds : ∀ (base : Heap) (cl : List (Str × Addr)) (low : Hp), Callee l.prog w K mg base CX0 (cfX K (tabA A0 A18 A19 A20) tabN [(Pt, lawQ)] cl lamT low) "is_kinds" 2 1 m_is_kinds := fun base cl low => callee_mk F12 (ok_is_kinds (hK cl low) (T cl low) (G_is_rising base cl low) F12) (PySem.W.mg_of X G a12) b12
  have G_is_comers : ∀ (base : Heap) (cl : List (Str × Addr)) (low : Hp), Callee l.prog w K mg base CX0 (cfX K (tabA A0 A18 A19 A20) tabN [(Pt, lawQ)] cl lamT low) "is_comers" 2 1 m_is_comers := fun base cl low => callee_mk F13 (ok_is_comers (hK cl low) (T cl low) (G_is_rising base cl low) F13) (PySem.W.mg_of X G a13) b13
  have G_line_of : ∀ (base : Heap) (cl : List (Str × Addr)) (low : Hp), Callee l.prog w K mg base CX0 (cfX K (tabA A0 A18 A19 A20) tabN [(Pt, lawQ)] cl lamT low) "line_of" 1 1 m_line_of := fun base cl low => callee_mk F14 (ok_line_of (hK cl low) (T cl low)  F14) (PySem.W.mg_of X G a14) b14
  have G_is_part : ∀ (base : Heap) (cl : List (Str × Addr)) (low : Hp), Callee l.prog w K mg base CX0 (cfX K (tabA A0 A18 A19 A20) tabN [(Pt, lawQ)] cl lamT low) "is_part" 2 2 m_is_part := fun base cl low => callee_mk F15 (ok_is_part (hK cl low) (T cl low) (G_is_rising base cl low) F15) (PySem.W.mg_of X G a15) b15
  have G_is_string : ∀ (base : Heap) (cl : List (Str × Addr)) (low : Hp), Callee l.prog w K mg base CX0 (cfX K (tabA A0 A18 A19 A20) tabN [(Pt, lawQ)] cl lamT low) "is_string" 1 2 m_is_string := fun base cl low => callee_mk F16 (ok_is_string (hK cl low) (T cl low)  F16) (PySem.W.mg_of X G a16) b16
  have G_is_word : ∀ (base : Heap) (cl : List (Str × Addr)) (low : Hp), Callee l.prog w K mg base CX0 (cfX K (tabA A0 A18 A19 A20) tabN [(Pt, lawQ)] cl lamT low) "is_word" 2 2 m_is_word := fun base cl low => callee_mk F17 (ok_is_word (hK cl low) (T cl low) (G_is_string base cl low) F17) (PySem.W.mg_of X G a17) b17
  have G_is_line : ∀ (base : Heap) (cl : List (Str × Addr)) (low : Hp), Callee l.prog w K mg base CX0 (cfX K (tabA A0 A18 A19 A20) tabN [(Pt, lawQ)] cl lamT low) "is_line" 3 3 m_is_line := fun base cl low => callee_mk F18 (ok_is_line (hK cl low) (T cl low) (G_is_part base cl low) (G_is_word base cl low) F18) (PySem.W.mg_of X G a18) b18
  have G_Book___init__ : ∀ (base : Heap) (cl : List (Str × Addr)) (low : Hp), MakeOk l.prog w K mg base CX0 (cfX K (tabA A0 A18 A19 A20) tabN [(Pt, lawQ)] cl lamT low) 0 "Book" 4 p_Book___init__ := fun base cl low => ⟨⟨_, (ok_Book___init__ (hK cl low) (T cl low) (G_is_kinds base cl low) (G_is_comers base cl low) (G_is_line base cl low) l19 c19), ⟨x0_mk, a19, n19, x0_kp⟩⟩, PySem.W.mg_of X G x0_at⟩
  have G_Book_read : ∀ (base : Heap) (cl : List (Str × Addr)) (low : Hp), StatOk l.prog w K mg base CX0 (cfX K (tabA A0 A18 A19 A20) tabN [(Pt, lawQ)] cl lamT low) 0 "read" 6 (ar 1 m_Book_read) := fun base cl low => ⟨⟨_, _, _, (cal_mk (ok_Book_read (hK cl low) (T cl low) (G_is_kinds base cl low) (G_is_comers base cl low) (G_line_of base cl low) (G_is_line base cl low) (G_Book___init__ base cl low) F20) b20), ⟨x0_rd, x0_ga⟩, a20, ⟨_, n20⟩, k20⟩⟩
  have G__law_line_text : ∀ (base : Heap) (cl : List (Str × Addr)) (low : Hp), Callee l.prog w K mg base CX0 (cfX K (tabA A0 A18 A19 A20) tabN [(Pt, lawQ)] cl lamT low) "_law_line_text" 1 1 m__law_line_text := fun base cl low => callee_mk F21 (ok__law_line_text (hK cl low) (T cl low)  F21) (PySem.W.mg_of X G a21) b21
  have G__law_book_text : ∀ (base : Heap) (cl : List (Str × Addr)) (low : Hp), Callee l.prog w K mg base CX0 (cfX K (tabA A0 A18 A19 A20) tabN [(Pt, lawQ)] cl lamT low) "_law_book_text" 2 1 m__law_book_text := fun base cl low => callee_mk F22 (ok__law_book_text (hK cl low) (T cl low) (G__law_line_text base cl low) F22) (PySem.W.mg_of X G a22) b22
  have G__law_book : ∀ (base : Heap) (cl : List (Str × Addr)) (low : Hp), Callee l.prog w K mg base CX0 (cfX K (tabA A0 A18 A19 A20) tabN [(Pt, lawQ)] cl lamT low) "_law_book" 7 1 m__law_book := fun base cl low => callee_mk F23 (ok__law_book (hK cl low) (T cl low) (G_Book_read base cl low) (G__law_book_text base cl low) F23) (PySem.W.mg_of X G a23) b23
  have G__law_same : ∀ (base : Heap) (cl : List (Str × Addr)) (low : Hp), Callee l.prog w K mg base CX0 (cfX K (tabA A0 A18 A19 A20) tabN [(Pt, lawQ)] cl lamT low) "_law_same" 9 2 (m__law_same 8) := fun base cl low => callee_mk F24 (ok__law_same (hK cl low) (T cl low)  F24 (PySem.W.mg_of X G a24) b24 8) (PySem.W.mg_of X G a24) b24
  have G_Book_lines : ∀ (base : Heap) (cl : List (Str × Addr)) (low : Hp), MethOk l.prog w K mg base CX0 (cfX K (tabA A0 A18 A19 A20) tabN [(Pt, lawQ)] cl lamT low) 0 "lines" 1 (ar 1 m_Book_lines) := fun base cl low => ⟨⟨_, (cal_mk (ok_Book_lines (hK cl low) (T cl low)  F25) b25), ⟨a25, n25, k25⟩⟩, x0_cl, show ixOf "lines" (tabN 0) = none by decide +kernel⟩
  have G_is_number : ∀ (base : Heap) (cl : List (Str × Addr)) (low : Hp), Callee l.prog w K mg base CX0 (cfX K (tabA A0 A18 A19 A20) tabN [(Pt, lawQ)] cl lamT low) "is_number" 1 3 m_is_number := fun base cl low => callee_mk F26 (ok_is_number (hK cl low) (T cl low)  F26) (PySem.W.mg_of X G a26) b26
  have G_Book_muted : ∀ (base : Heap) (cl : List (Str × Addr)) (low : Hp), MethOk l.prog w K mg base CX0 (cfX K (tabA A0 A18 A19 A20) tabN [(Pt, lawQ)] cl lamT low) 0 "muted" 6 p_Book_muted := fun base cl low => ⟨⟨_, (ok_Book_muted (hK cl low) (T cl low) (G_is_number base cl low) (G_Book___init__ base cl low) l27 c27), ⟨a27, n27, k27⟩⟩, x0_cl, show ixOf "muted" (tabN 0) = none by decide +kernel⟩
  have G_Book___eq__ : ∀ (base : Heap) (cl : List (Str × Addr)) (low : Hp), OwnOk l.prog w K mg base CX0 (cfX K (tabA A0 A18 A19 A20) tabN [(Pt, lawQ)] cl lamT low) 0 "__eq__" 2 (ar 2 m_Book___eq__) := fun base cl low => ⟨⟨_, (cal_mk (ok_Book___eq__ (hK cl low) (T cl low) (G_Book_lines base cl low) F28) b28), a28, n28⟩⟩
  have G__law_all_gaps : ∀ (base : Heap) (cl : List (Str × Addr)) (low : Hp), Callee l.prog w K mg base CX0 (cfX K (tabA A0 A18 A19 A20) tabN [(Pt, lawQ)] cl lamT low) "_law_all_gaps" 1 1 m__law_all_gaps := fun base cl low => callee_mk F29 (ok__law_all_gaps (hK cl low) (T cl low)  F29) (PySem.W.mg_of X G a29) b29
  have G_is_gap : ∀ (base : Heap) (cl : List (Str × Addr)) (low : Hp), Callee l.prog w K mg base CX0 (cfX K (tabA A0 A18 A19 A20) tabN [(Pt, lawQ)] cl lamT low) "is_gap" 1 2 m_is_gap := fun base cl low => callee_mk F30 (ok_is_gap (hK cl low) (T cl low)  F30) (PySem.W.mg_of X G a30) b30
  have G_is_one : ∀ (base : Heap) (cl : List (Str × Addr)) (low : Hp), Callee l.prog w K mg base CX0 (cfX K (tabA A0 A18 A19 A20) tabN [(Pt, lawQ)] cl lamT low) "is_one" 1 2 m_is_one := fun base cl low => callee_mk F31 (ok_is_one (hK cl low) (T cl low)  F31) (PySem.W.mg_of X G a31) b31
  have G_takes : ∀ (base : Heap) (cl : List (Str × Addr)) (low : Hp), Callee l.prog w K mg base CX0 (cfX K (tabA A0 A18 A19 A20) tabN [(Pt, lawQ)] cl lamT low) "takes" 1 2 m_takes := fun base cl low => callee_mk F32 (ok_takes (hK cl low) (T cl low)  F32) (PySem.W.mg_of X G a32) b32
  have G_Book_line_at : ∀ (base : Heap) (cl : List (Str × Addr)) (low : Hp), MethOk l.prog w K mg base CX0 (cfX K (tabA A0 A18 A19 A20) tabN [(Pt, lawQ)] cl lamT low) 0 "line_at" 2 (ar 3 m_Book_line_at) := fun base cl low => ⟨⟨_, (cal_mk (ok_Book_line_at (hK cl low) (T cl low) (G_is_gap base cl low) (G_is_one base cl low) (G_takes base cl low) F33) b33), ⟨a33, n33, k33⟩⟩, x0_cl, show ixOf "line_at" (tabN 0) = none by decide +kernel⟩
  have G_Book_word : ∀ (base : Heap) (cl : List (Str × Addr)) (low : Hp), MethOk l.prog w K mg base CX0 (cfX K (tabA A0 A18 A19 A20) tabN [(Pt, lawQ)] cl lamT low) 0 "word" 3 (ar 3 m_Book_word) := fun base cl low => ⟨⟨_, (cal_mk (ok_Book_word (hK cl low) (T cl low) (G_Book_line_at base cl low) F34) b34), ⟨a34, n34, k34⟩⟩, x0_cl, show ixOf "word" (tabN 0) = none by decide +kernel⟩
  have G__law_fits : ∀ (base : Heap) (cl : List (Str × Addr)) (low : Hp), Callee l.prog w K mg base CX0 (cfX K (tabA A0 A18 A19 A20) tabN [(Pt, lawQ)] cl lamT low) "_law_fits" 1 2 m__law_fits := fun base cl low => callee_mk F35 (ok__law_fits (hK cl low) (T cl low)  F35) (PySem.W.mg_of X G a35) b35
  have G__law_line_at : ∀ (base : Heap) (cl : List (Str × Addr)) (low : Hp), Callee l.prog w K mg base CX0 (cfX K (tabA A0 A18 A19 A20) tabN [(Pt, lawQ)] cl lamT low) "_law_line_at" 2 3 m__law_line_at := fun base cl low => callee_mk F36 (ok__law_line_at (hK cl low) (T cl low) (G__law_fits base cl low) F36) (PySem.W.mg_of X G a36) b36
  have G__law_word : ∀ (base : Heap) (cl : List (Str × Addr)) (low : Hp), Callee l.prog w K mg base CX0 (cfX K (tabA A0 A18 A19 A20) tabN [(Pt, lawQ)] cl lamT low) "_law_word" 3 3 m__law_word := fun base cl low => callee_mk F37 (ok__law_word (hK cl low) (T cl low) (G__law_line_at base cl low) F37) (PySem.W.mg_of X G a37) b37
  have G_Book___init___x : ∀ (base : Heap) (cl : List (Str × Addr)) (low : Hp), MakeOk l.prog w K mg base (L2.CX l.prog w) (cfX K (tabA A0 A18 A19 A20) tabN [(Pt, lawQ)] cl lamT low) 0 "Book" 4 p_Book___init___x := fun base cl low => ⟨⟨_, (ok_Book___init___x (hK cl low) (T cl low) (G_is_kinds base cl low) (Z_InvalidKinds base cl low) (G_is_comers base cl low) (Z_InvalidComers base cl low) (G_is_line base cl low) (Z_InvalidLine base cl low) l19 c19), ⟨x0_mk, a19, n19, x0_kp⟩⟩, PySem.W.mg_of X G x0_at⟩
  have G_Book_muted_x : ∀ (base : Heap) (cl : List (Str × Addr)) (low : Hp), MethOk l.prog w K mg base (L2.CX l.prog w) (cfX K (tabA A0 A18 A19 A20) tabN [(Pt, lawQ)] cl lamT low) 0 "muted" 6 p_Book_muted_x := fun base cl low => ⟨⟨_, (ok_Book_muted_x (hK cl low) (T cl low) (G_is_number base cl low) (Z_InvalidLine base cl low) (G_Book___init___x base cl low) l27 c27), ⟨a27, n27, k27⟩⟩, x0_cl, show ixOf "muted" (tabN 0) = none by decide +kernel⟩
  subst w_ll
  have TK : TryK K mg s__law_field s__law_try _ _ _ _ gA1 gA2 gA3 := ⟨F38, sc__law_field, b38, PySem.W.mg_of X G a38, k38, .inl rfl, field_ok K, F39, sc__law_try, b39, PySem.W.mg_of X G a39, k39, PySem.W.mg_of X G u1_at, PySem.W.mg_of X G u2_at, PySem.W.mg_of X G u3_at⟩
  refine ⟨_, [(cL, Pt)], spLawT K Pt, fun p hp => ?_, fun p hp => ?_, fun p hp => ?_, fun s v => .of_eq rfl, fun H a ns hl _ hT hS => ⟨a, ns, rfl, hS, hl, hT _ (List.mem_singleton.mpr rfl), fun _ => rfl⟩, fun base _ _ TB => fn_law (N := N_law) (ca := (tabA A0 A18 A19 A20)) (nm := tabN) (lam := lamT) (bm := b_law) (k := 9) l41 c41 sc_law (TB _ (List.mem_singleton.mpr rfl)) (fun A outer s H E C hC c Z => ?_) law_true⟩
  · rw [List.mem_singleton.mp hp]
    exact own _ _ _ _ _ _ _ _ l41 rfl rfl w_lc w_v
  · rw [List.mem_singleton.mp hp]
    exact w_lp
  · rw [List.mem_singleton.mp hp]
    exact PySem.W.codeHd_of_K X w_hd
  · subst hC
    have G__law_tries : LamCall (cxL l.prog w K mg base fa (.ref cL) A outer s H E) (cfX K (tabA A0 A18 A19 A20) tabN [(Pt, lawQ)] (cxL l.prog w K mg base fa (.ref cL) A outer s H E).env.cells lamT (fun _ => none)) "_law_tries" 9 (fun ρ => m_law_tries lmT ρ tabN isE) := ⟨⟨_, _, _, PySem.W.mg_of X G a40, k40, b40, fun B h σ ρ S sl => by
      have hL := lams (C := cfX K (tabA A0 A18 A19 A20) tabN [(Pt, lawQ)] (cxL l.prog w K mg base fa (.ref cL) A outer s H E).env.cells lamT h) (P := l.prog) (w := w) (mg := mg) (base := base) (f := fa) (cdv := .ref cL) (A := A) (outer := outer) (s := s) (H := H) (E := E) (B := B) rfl rfl rfl (T _ h) (G_Book_muted_x B _ h)
      have FT := fn_try (k := 6) TK rfl S hL sl (EX _ h) rfl rfl (.inl rfl) rfl rfl rfl rfl
      exact ok__law_tries rfl (callee_mk F39 FT TK.mt b39) F40⟩, fun ρ vs M => fnM_ok⟩
    exact wk_law rfl (T _ _) (G__law_open base _ _) (G__law_some_book base _ _) (G__law_book base _ _) (G__law_same base _ _) (G_Book_lines base _ _) (G_Book_muted base _ _) (G_Book___eq__ base _ _) (G__law_draw base _ _) (G__law_all_gaps base _ _) (G_Book_word base _ _) (G__law_word base _ _) (G__law_of base _ _) G__law_tries c Z rfl
end G
open PySem PySem.W PyProof.Rows
set_option maxRecDepth 100000 in
set_option maxHeartbeats 0 in
theorem PySem.Challenge.cw_gapborn_k08_muted_lines_holds : PySem.Challenge.rw_gapborn_k08_muted_lines.Holds := by
  w_on; o_law; k_head; (case hw => w_witness2)
  k_fill
  refine LamX.walk_ofOwn (l := PySem.Challenge.rw_gapborn_k08_muted_lines) (n := 63) (k := 10) (x := "_law_script") (CX := fun _ => L2.CX0) rfl (by decide) rfl ⟨rfl, by decide, by decide⟩ (by decide +kernel) (fun w h Y => PySem.W.km_in_of Y) ?F (fun _ _ _ _ _ h => h)
  case F =>
    intro w mg fa h Y KX Gh hmg own
    refine' G.all_mk KX Gh hmg own ?x0_at ?x0_pg ?x0_hd ?x0_po ?x0_sa ?x0_na_kinds ?x0_na_comers ?x0_na_own_lines ?x0_rd ?x0_ga ?x0_cv_MOST ?x0_nf_non ?x0_nf_bl ?x0_nf_int ?x0_nf_str ?x0_nf_lst ?x0_nf_tup ?x0_ne ?x0_ob ?x0_ha ?x0_hn ?x0_tk ?x0_lk ?x0_mk ?x0_kp ?a1 ?l1 ?c1 ?k1 ?a2 ?l2 ?c2 ?k2 ?a3 ?l3 ?c3 ?k3 ?a4 ?l4 ?c4 ?k4 ?a5 ?l5 ?c5 ?k5 ?a6 ?l6 ?c6 ?k6 ?a7 ?l7 ?c7 ?k7 ?a8 ?l8 ?c8 ?k8 ?a9 ?l9 ?c9 ?k9 ?a10 ?l10 ?c10 ?k10 ?a11 ?l11 ?c11 ?k11 ?a12 ?l12 ?c12 ?k12 ?a13 ?l13 ?c13 ?k13 ?a14 ?l14 ?c14 ?k14 ?a15 ?l15 ?c15 ?k15 ?a16 ?l16 ?c16 ?k16 ?a17 ?l17 ?c17 ?k17 ?a18 ?l18 ?c18 ?k18 ?a19 ?n19 ?l19 ?c19 ?k19 ?a20 ?n20 ?l20 ?c20 ?k20 ?a21 ?l21 ?c21 ?k21 ?a22 ?l22 ?c22 ?k22 ?a23 ?l23 ?c23 ?k23 ?a24 ?l24 ?c24 ?k24 ?a25 ?n25 ?l25 ?c25 ?k25 ?a26 ?l26 ?c26 ?k26 ?a27 ?n27 ?l27 ?c27 ?k27 ?a28 ?n28 ?l28 ?c28 ?k28 ?a29 ?l29 ?c29 ?k29 ?a30 ?l30 ?c30 ?k30 ?a31 ?l31 ?c31 ?k31 ?a32 ?l32 ?c32 ?k32 ?a33 ?n33 ?l33 ?c33 ?k33 ?a34 ?n34 ?l34 ?c34 ?k34 ?a35 ?l35 ?c35 ?k35 ?a36 ?l36 ?c36 ?k36 ?a37 ?l37 ?c37 ?k37 ?a38 ?l38 ?c38 ?k38 ?a39 ?l39 ?c39 ?k39 ?a40 ?l40 ?c40 ?k40 ?a41 ?l41 ?c41 ?k41 ?z_int ?z_list ?z_len ?z_abs ?z_range ?z_isinstance ?z_str ?z_all ?z_sorted ?z_set ?z_tuple ?z_enumerate ?z_zip ?z_bool ?z_super ?q_LOWER ?q_UPPER ?q_MOST_WORD ?u1_at ?u1_sb ?u1_is ?u1_ty ?u2_at ?u2_sb ?u2_is ?u2_ty ?u3_at ?u3_sb ?u3_is ?u3_ty ?u_cl ?u_mro ?u_in ?u_opq ?u_top ?w_ll ?w_lc ?w_v ?w_lp ?w_hd ?x18_at ?x18_lk ?x18_sa ?x18_ga ?x18_gg ?x18_ex ?x18_ty ?x18_kp ?x18_hd ?x18_n1 ?x18_n2 ?x18_in ?x18_ti ?x18_fn ?x18_qn ?x18_co ?x18_c2 ?x18_cf ?x18_ce ?x18_is ?x18_mr ?x18_sv ?x18_s1 ?x18_s2 ?x18_s3 ?x19_at ?x19_lk ?x19_sa ?x19_ga ?x19_gg ?x19_ex ?x19_ty ?x19_kp ?x19_hd ?x19_n1 ?x19_n2 ?x19_in ?x19_ti ?x19_fn ?x19_qn ?x19_co ?x19_c2 ?x19_cf ?x19_ce ?x19_is ?x19_mr ?x19_sv ?x19_s1 ?x19_s2 ?x19_s3 ?x20_at ?x20_lk ?x20_sa ?x20_ga ?x20_gg ?x20_ex ?x20_ty ?x20_kp ?x20_hd ?x20_n1 ?x20_n2 ?x20_in ?x20_ti ?x20_fn ?x20_qn ?x20_co ?x20_c2 ?x20_cf ?x20_ce ?x20_is ?x20_mr ?x20_sv ?x20_s1 ?x20_s2 ?x20_s3
    (case x0_at => k_is)
    (case x0_pg => k_is)
    (case x0_hd => k_is)
    (case x0_po => k_is)
    (case x0_sa => k_is)
    (case x0_na_kinds => k_is)
    (case x0_na_comers => k_is)
    (case x0_na_own_lines => k_is)
    (case x0_rd => k_is)
    (case x0_ga => k_is)
    (case x0_cv_MOST => k_is)
    (case x0_nf_non => k_is)
    (case x0_nf_bl => k_is)
    (case x0_nf_int => k_is)
    (case x0_nf_str => k_is)
    (case x0_nf_lst => k_is)
    (case x0_nf_tup => k_is)
    (case x0_ne => k_is)
    (case x0_ob => k_is)
    (case x0_ha => k_is)
    (case x0_hn => k_is)
    (case x0_tk => k_is)
    (case x0_lk => k_is)
    (case x0_mk => k_is)
    (case x0_kp => k_is)
    (case a1 => k_is)
    (case l1 => k_is)
    (case c1 => k_is)
    (case k1 => k_is)
    (case a2 => k_is)
    (case l2 => k_is)
    (case c2 => k_is)
    (case k2 => k_is)
    (case a3 => k_is)
    (case l3 => k_is)
    (case c3 => k_is)
    (case k3 => k_is)
    (case a4 => k_is)
    (case l4 => k_is)
    (case c4 => k_is)
    (case k4 => k_is)
    (case a5 => k_is)
    (case l5 => k_is)
    (case c5 => k_is)
    (case k5 => k_is)
    (case a6 => k_is)
    (case l6 => k_is)
    (case c6 => k_is)
    (case k6 => k_is)
    (case a7 => k_is)
    (case l7 => k_is)
    (case c7 => k_is)
    (case k7 => k_is)
    (case a8 => k_is)
    (case l8 => k_is)
    (case c8 => k_is)
    (case k8 => k_is)
    (case a9 => k_is)
    (case l9 => k_is)
    (case c9 => k_is)
    (case k9 => k_is)
    (case a10 => k_is)
    (case l10 => k_is)
    (case c10 => k_is)
    (case k10 => k_is)
    (case a11 => k_is)
    (case l11 => k_is)
    (case c11 => k_is)
    (case k11 => k_is)
    (case a12 => k_is)
    (case l12 => k_is)
    (case c12 => k_is)
    (case k12 => k_is)
    (case a13 => k_is)
    (case l13 => k_is)
    (case c13 => k_is)
    (case k13 => k_is)
    (case a14 => k_is)
    (case l14 => k_is)
    (case c14 => k_is)
    (case k14 => k_is)
    (case a15 => k_is)
    (case l15 => k_is)
    (case c15 => k_is)
    (case k15 => k_is)
    (case a16 => k_is)
    (case l16 => k_is)
    (case c16 => k_is)
    (case k16 => k_is)
    (case a17 => k_is)
    (case l17 => k_is)
    (case c17 => k_is)
    (case k17 => k_is)
    (case a18 => k_is)
    (case l18 => k_is)
    (case c18 => k_is)
    (case k18 => k_is)
    (case a19 => k_is)
    (case n19 => k_is)
    (case l19 => k_is)
    (case c19 => k_is)
    (case k19 => k_is)
    (case a20 => k_is)
    (case n20 => k_is)
    (case l20 => k_is)
    (case c20 => k_is)
    (case k20 => k_is)
    (case a21 => k_is)
    (case l21 => k_is)
    (case c21 => k_is)
    (case k21 => k_is)
    (case a22 => k_is)
    (case l22 => k_is)
    (case c22 => k_is)
    (case k22 => k_is)
    (case a23 => k_is)
    (case l23 => k_is)
    (case c23 => k_is)
    (case k23 => k_is)
    (case a24 => k_is)
    (case l24 => k_is)
    (case c24 => k_is)
    (case k24 => k_is)
    (case a25 => k_is)
    (case n25 => k_is)
    (case l25 => k_is)
    (case c25 => k_is)
    (case k25 => k_is)
    (case a26 => k_is)
    (case l26 => k_is)
    (case c26 => k_is)
    (case k26 => k_is)
    (case a27 => k_is)
    (case n27 => k_is)
    (case l27 => k_is)
    (case c27 => k_is)
    (case k27 => k_is)
    (case a28 => k_is)
    (case n28 => k_is)
    (case l28 => k_is)
    (case c28 => k_is)
    (case k28 => k_is)
    (case a29 => k_is)
    (case l29 => k_is)
    (case c29 => k_is)
    (case k29 => k_is)
    (case a30 => k_is)
    (case l30 => k_is)
    (case c30 => k_is)
    (case k30 => k_is)
    (case a31 => k_is)
    (case l31 => k_is)
    (case c31 => k_is)
    (case k31 => k_is)
    (case a32 => k_is)
    (case l32 => k_is)
    (case c32 => k_is)
    (case k32 => k_is)
    (case a33 => k_is)
    (case n33 => k_is)
    (case l33 => k_is)
    (case c33 => k_is)
    (case k33 => k_is)
    (case a34 => k_is)
    (case n34 => k_is)
    (case l34 => k_is)
    (case c34 => k_is)
    (case k34 => k_is)
    (case a35 => k_is)
    (case l35 => k_is)
    (case c35 => k_is)
    (case k35 => k_is)
    (case a36 => k_is)
    (case l36 => k_is)
    (case c36 => k_is)
    (case k36 => k_is)
    (case a37 => k_is)
    (case l37 => k_is)
    (case c37 => k_is)
    (case k37 => k_is)
    (case a38 => k_is)
    (case l38 => k_is)
    (case c38 => k_is)
    (case k38 => k_is)
    (case a39 => k_is)
    (case l39 => k_is)
    (case c39 => k_is)
    (case k39 => k_is)
    (case a40 => k_is)
    (case l40 => k_is)
    (case c40 => k_is)
    (case k40 => k_is)
    (case a41 => k_is)
    (case l41 => k_is)
    (case c41 => k_is)
    (case k41 => k_is)
    (case z_int => k_is)
    (case z_list => k_is)
    (case z_len => k_is)
    (case z_abs => k_is)
    (case z_range => k_is)
    (case z_isinstance => k_is)
    (case z_str => k_is)
    (case z_all => k_is)
    (case z_sorted => k_is)
    (case z_set => k_is)
    (case z_tuple => k_is)
    (case z_enumerate => k_is)
    (case z_zip => k_is)
    (case z_bool => k_is)
    (case z_super => k_is)
    (case q_LOWER => k_is)
    (case q_UPPER => k_is)
    (case q_MOST_WORD => k_is)
    (case u1_at => k_is)
    (case u1_sb => k_is)
    (case u1_is => k_is)
    (case u1_ty => k_is)
    (case u2_at => k_is)
    (case u2_sb => k_is)
    (case u2_is => k_is)
    (case u2_ty => k_is)
    (case u3_at => k_is)
    (case u3_sb => k_is)
    (case u3_is => k_is)
    (case u3_ty => k_is)
    (case u_cl => k_is)
    (case u_mro => first | rfl | kernel_rfl | decide)
    (case u_in => k_is)
    (case u_opq => k_is)
    (case u_top => first | rfl | kernel_rfl | decide)
    (case w_ll => first | rfl | kernel_rfl | decide)
    (case w_lc => k_is)
    (case w_v => first | rfl | kernel_rfl | decide)
    (case w_lp => first | rfl | kernel_rfl | decide)
    (case w_hd => first | rfl | kernel_rfl | decide)
    (case x18_at => k_is)
    (case x18_lk => k_is)
    (case x18_sa => k_is)
    (case x18_ga => k_is)
    (case x18_gg => k_is)
    (case x18_ex => k_is)
    (case x18_ty => k_is)
    (case x18_kp => k_is)
    (case x18_hd => k_is)
    (case x18_n1 => k_is)
    (case x18_n2 => k_is)
    (case x18_in => k_is)
    (case x18_ti => k_is)
    (case x18_fn => k_is)
    (case x18_qn => k_is)
    (case x18_co => k_is)
    (case x18_c2 => first | rfl | kernel_rfl | decide)
    (case x18_cf => first | rfl | kernel_rfl | decide)
    (case x18_ce => k_is)
    (case x18_is => k_is)
    (case x18_mr => k_is)
    (case x18_sv => k_is)
    (case x18_s1 => k_is)
    (case x18_s2 => k_is)
    (case x18_s3 => k_is)
    (case x19_at => k_is)
    (case x19_lk => k_is)
    (case x19_sa => k_is)
    (case x19_ga => k_is)
    (case x19_gg => k_is)
    (case x19_ex => k_is)
    (case x19_ty => k_is)
    (case x19_kp => k_is)
    (case x19_hd => k_is)
    (case x19_n1 => k_is)
    (case x19_n2 => k_is)
    (case x19_in => k_is)
    (case x19_ti => k_is)
    (case x19_fn => k_is)
    (case x19_qn => k_is)
    (case x19_co => k_is)
    (case x19_c2 => first | rfl | kernel_rfl | decide)
    (case x19_cf => first | rfl | kernel_rfl | decide)
    (case x19_ce => k_is)
    (case x19_is => k_is)
    (case x19_mr => k_is)
    (case x19_sv => k_is)
    (case x19_s1 => k_is)
    (case x19_s2 => k_is)
    (case x19_s3 => k_is)
    (case x20_at => k_is)
    (case x20_lk => k_is)
    (case x20_sa => k_is)
    (case x20_ga => k_is)
    (case x20_gg => k_is)
    (case x20_ex => k_is)
    (case x20_ty => k_is)
    (case x20_kp => k_is)
    (case x20_hd => k_is)
    (case x20_n1 => k_is)
    (case x20_n2 => k_is)
    (case x20_in => k_is)
    (case x20_ti => k_is)
    (case x20_fn => k_is)
    (case x20_qn => k_is)
    (case x20_co => k_is)
    (case x20_c2 => first | rfl | kernel_rfl | decide)
    (case x20_cf => first | rfl | kernel_rfl | decide)
    (case x20_ce => k_is)
    (case x20_is => k_is)
    (case x20_mr => k_is)
    (case x20_sv => k_is)
    (case x20_s1 => k_is)
    (case x20_s2 => k_is)
    (case x20_s3 => k_is)

#print axioms PySem.Challenge.cw_gapborn_k08_muted_lines_holds