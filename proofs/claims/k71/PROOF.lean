import PyProof.Rows.All
import Wide.All
import OpenK.AllK
import Wide.FinOn
import HandS.ForMost
import HandS.ForExc
import HandS.Lambda
import KE.KDictKeyed
import KE.KeyNested
import HandS.TupAny
import HandS.TupMul
import HandS.Deep
import HandS.IsInst
import HandS.Wide
import HandS.Flow
import HandS.SortInts
import KE.DataEq
import HandS.Zip
import HandS.SetTxt0
import HandS.SetFor
import HandS.More
import HandS.Star
import HandS.OwnEq
import HandS.Property
import HandS.ClsMeth
import HandS.Conv
import HandS.Defaults
import HandS.FStr
import KE.GoesEnum
import HandS.Records
import KE.KOpsOwn
import HandS.Style
import HandS.TupSets
import HandS.Replace
import HandS.NoneIn
import HandS.ExcInit
import HandS.ExcField
import KE.KExcSuper
import KE.KSuper
import HandS.WordsExc
import HandS.HotCalls
import HandS.EndOwn
import HandS.MakeKw
import HandS.ReplaceLit
import PyProof.StrLawsReplace
import KE.KExcInit
import HandS.DictComp
import PyProof.Rows.StrMeet
import HandS.TryOnly
import HandS.Dict
import HandS.RevRange
import PyProof.CollectStr
import KE.GoesMore
import HandS.WideBits
import HandS.Finally
import KE.KxField
import KE.KIntText
import HandS.StrMore
import HandS.Head2
import HandS.HeadEnd
import HandS.HeadHook2
import PySem.Challenge.RW_gapborn_k71_columns_of_births
set_option Elab.async false
set_option linter.all false
set_option maxRecDepth 100000
set_option maxHeartbeats 4000000
namespace G
open PySem PySem.Spec PyProof.Rows L2
/-- a guard at which no reduction starts -/
noncomputable def gi {α : Type} (c : Prop) (a b : α) : α := @ite α c (Classical.propDecidable c) a b
@[simp] theorem gi_true {α : Type} {a b : α} : gi True a b = a := by
  unfold gi
  exact if_pos trivial
@[simp] theorem gi_false {α : Type} {a b : α} : gi False a b = b := by
  unfold gi
  exact if_neg id
theorem gi_pos {α : Type} {c : Prop} {a b : α} (h : c) : gi c a b = a := by
  unfold gi
  exact if_pos h
/-- an atom that keys are made of -/
inductive DA where
  | i (n : Int) | s (l : List Nat)
  deriving DecidableEq
/-- a key made of whole numbers and None -/
abbrev DN := List (Option Int)
def nkA : Option Int → NestedKey
  | none => .none
  | some i => .num i
def nkO (l : DN) : NestedKey := .tup (l.map nkA)
def nkV : Option Int → V
  | none => .non
  | some i => .int i
/-- at a: a dict of the entries xs (the key, the key's own tuple, the value) -/
def dcnφ (a : Addr) (xs : List (DN × Addr × V)) : Heap → Prop := fun h => (a == sysModules) = false ∧ xs.length ≤ sizeLine ∧
  ∃ (us : List (DN × Addr × Value)) (o : Obj) (es : Array DictEntry) (ep : Nat), Paired (fun (p : DN × Addr × V) (q : DN × Addr × Value) => p.1 = q.1 ∧ p.2.1 = q.2.1 ∧ RelV p.2.2 q.2.2) xs us ∧
    h.get? a = some o ∧ o.ExactDict ∧ o.data = .dict es ep ∧ (∀ w : World, es.toList = us.map fun u => ⟨(nkO u.1).hash w, .ref u.2.1, u.2.2⟩) ∧ (us.map (·.1)).Nodup
def dcnO (a : Addr) (xs : List (DN × Addr × V)) : HO := .ext (dcnφ a xs)
/-- data that never changes -/
inductive D where
  | non | bl (b : Bool) | int (i : Int) | str (s : List Nat)
  | lst (xs : List D) | tup (xs : List D) | obj (c : Nat) (fs : List D)
  /-- the script -/
  | scr (ns : List Int)
  /-- what a lambda made -/
  | clo (k : Nat)
  /-- an exception's fields -/
  | exn (c : Nat) (fs : List D)
  /-- the thing at a -/
  | pv (a : Addr)
  /-- dicts whose keys are atoms, tuples of atoms -/
  | dck (ks : List DA) (xs : List D) | dcp (ks : List DN) (xs : List D)
/-- a value: data, or the place of a thing that changes -/
inductive VD where
  | d (x : D) | adr (i : Nat)
inductive MO where
  | dead | lst (xs : List D) | ins (c : Nat) (fs : List VD)
  /-- a list of things that may change -/
  | lsv (xs : List VD)
  /-- dicts -/
  | dck (kvs : List (DA × VD)) | dcp (kvs : List (List DA × VD))
abbrev Mem := List MO
/-- a lambda's text; one: the parameter that has 0 for its default -/
structure LamI where
  qual : Str
  params : Arguments
  body : Expr
  scope : Scope
  one : Option Str
structure Cf where
  K : PySem.W.Frag
  ca : Nat → Addr
  nm : Nat → List Str
  /-- tables of code objects -/
  tb : List (Addr × Str)
  /-- the cells that lambdas see -/
  cl : List (Str × Addr)
  lam : Nat → Option LamI
  /-- what is known from the beginning -/
  low : Hp
abbrev cf0 (K : PySem.W.Frag) (ca : Nat → Addr) (nm : Nat → List Str) : Cf := ⟨K, ca, nm, [], [], fun _ => none, fun _ => none⟩
abbrev lamFn (L : LamI) (cl : List (Str × Addr)) (dv pm cdv ct : Value) : FuncData :=
  { name := "<lambda>", qualname := L.qual, params := L.params, body := .expr L.body, scope := L.scope, globals := mainGlobals, closure := cl, defaults := dv, kwdefaults := .none, doc := .none, pyModule := pm, annotations := none, code := cdv, closureTuple := ct, builtins := builtinsNs }
abbrev lamObj (L : LamI) (cl : List (Str × Addr)) (dv pm : Value) (c' : Addr) (ct : Value) : Obj := { cls := .type "function", data := .func (lamFn L cl dv pm (.ref c') ct) }
/-- at f: the function that the lambda L made -/
def LamO (f : Addr) (L : LamI) (cl : List (Str × Addr)) (c' : Addr) (dv : Value) : HO := .ext fun h => ∃ pm ct : Value, h.get? f = some (lamObj L (cloFrom cl L.scope.names []) dv pm c' ct)
/-- at t: a tuple of one -/
def TupO (t : Addr) : HO := .ext fun h => ∃ v : Value, h.get? t = some { cls := .type "tuple", data := .seq #[v] }
/-- its defaults -/
def DvAt (B : Hp) (one : Option Str) (dv : Value) : Prop := match one with
  | none => dv = .none
  | some _ => ∃ t : Addr, dv = .ref t ∧ B t = some (TupO t)
theorem DvAt.mono {B B' : Hp} {one : Option Str} {dv : Value} (e : Same B B') (h : DvAt B one dv) : DvAt B' one dv := by
  cases one with
  | none => exact h
  | some x =>
    obtain ⟨t, h1, h2⟩ := h
    exact ⟨t, h1, e _ _ h2⟩
def enc (s : List Nat) : Str := ⟨s.toArray⟩
def DA.k : DA → Key
  | .i n => .inl n
  | .s l => .inr (enc l)
/-- what stands there for a dict -/
def dckO (ks : List DA) (vs : List V) : HO := .dK ((ks.map DA.k).zip vs)
def dcpO (ks : List (List DA)) (vs : List V) : HO := .dT ((ks.map fun l => l.map DA.k).zip vs)
mutual
inductive Rep (C : Cf) (B : Hp) : V → D → Prop
  | non : Rep C B .non .non
  | bl (b : Bool) : Rep C B (.bl b) (.bl b)
  | int (i : Int) : Rep C B (.int i) (.int i)
  | str (s : List Nat) : Rep C B (.str (enc s)) (.str s)
  | lst {a : Addr} {vs : List V} {ds : List D} : B a = some (.lst vs) → RepA C B vs ds → Rep C B (.ref a) (.lst ds)
  | tup {a : Addr} {vs : List V} {ds : List D} : SqT C.K B a vs → RepA C B vs ds → Rep C B (.ref a) (.tup ds)
  | obj {a dx : Addr} {c : Nat} {vs : List V} {ds : List D} : B a = some (.ins (C.ca c) dx ((C.nm c).zip vs)) → vs.length = (C.nm c).length → RepA C B vs ds → Rep C B (.ref a) (.obj c ds)
  | scr {a : Addr} {ns : List Int} : SqL C.K B a (ns.map V.int) → Rep C B (.ref a) (.scr ns)
  | clo {f c' : Addr} {k : Nat} {L : LamI} {dv : Value} : C.lam k = some L → B f = some (LamO f L C.cl c' dv) → B c' = some (LamX.CodeO c' L.qual) → DvAt B L.one dv → Rep C B (.ref f) (.clo k)
  | exn {dx : Addr} {fl : List (Str × V)} {c : Nat} {vs : List V} {fs : List D} : B dx = some (.xd fl) → vs.length = (C.nm c).length → (∀ (j : Nat) (f : Str) (v : V), (C.nm c)[j]? = some f → vs[j]? = some v → fl.lookup f = some v) → RepA C B vs fs → Rep C B (.ref dx) (.exn c fs)
  | pv {a : Addr} : Rep C B (.ref a) (.pv a)
  | dck {a : Addr} {ks : List DA} {vs : List V} {ds : List D} : B a = some (dckO ks vs) → ks.length = vs.length → RepA C B vs ds → Rep C B (.ref a) (.dck ks ds)
  | dcp {a : Addr} {xs : List (DN × Addr × V)} {ks : List DN} {vs : List V} {ds : List D} : B a = some (dcnO a xs) → ks = xs.map (·.1) → vs = xs.map (·.2.2) → (∀ x ∈ xs, SqT C.K B x.2.1 (x.1.map nkV)) → RepA C B vs ds → Rep C B (.ref a) (.dcp ks ds)
inductive RepA (C : Cf) (B : Hp) : List V → List D → Prop
  | nil : RepA C B [] []
  | cons {v : V} {vs : List V} {d : D} {ds : List D} : Rep C B v d → RepA C B vs ds → RepA C B (v :: vs) (d :: ds)
end
theorem sqL_sub {K : PySem.W.Frag} {B H : Hp} {a : Addr} {xs : List V} (e : Same B H) (h : SqL K B a xs) : SqL K H a xs := by
  rcases h with (h | ⟨o, h⟩) | h
  · exact .inl (.inl (e _ _ h))
  · exact .inl (.inr ⟨o, e _ _ h⟩)
  · exact .inr h
theorem sqT_sub {K : PySem.W.Frag} {B H : Hp} {a : Addr} {xs : List V} (e : Same B H) (h : SqT K B a xs) : SqT K H a xs := by
  rcases h with (h | ⟨o, h⟩) | h
  · exact .inl (.inl (e _ _ h))
  · exact .inl (.inr ⟨o, e _ _ h⟩)
  · exact .inr h
mutual
theorem Rep.mono {C : Cf} {B B' : Hp} (e : Same B B') : ∀ {v : V} {d : D}, Rep C B v d → Rep C B' v d
  | _, _, .non => .non
  | _, _, .bl b => .bl b
  | _, _, .int i => .int i
  | _, _, .str s => .str s
  | _, _, .lst h r => .lst (e _ _ h) (RepA.mono e r)
  | _, _, .tup h r => .tup (sqT_sub e h) (RepA.mono e r)
  | _, _, .obj h l r => .obj (e _ _ h) l (RepA.mono e r)
  | _, _, .scr h => .scr (sqL_sub e h)
  | _, _, .clo h0 h1 h2 h3 => .clo h0 (e _ _ h1) (e _ _ h2) (h3.mono e)
  | _, _, .exn h0 h1 h2 r => .exn (e _ _ h0) h1 h2 (RepA.mono e r)
  | _, _, .pv => .pv
  | _, _, .dck h l r => .dck (e _ _ h) l (RepA.mono e r)
  | _, _, .dcp h l1 l2 q r => .dcp (e _ _ h) l1 l2 (fun x hx => sqT_sub e (q x hx)) (RepA.mono e r)
theorem RepA.mono {C : Cf} {B B' : Hp} (e : Same B B') : ∀ {vs : List V} {ds : List D}, RepA C B vs ds → RepA C B' vs ds
  | _, _, .nil => .nil
  | _, _, .cons h r => .cons (Rep.mono e h) (RepA.mono e r)
end
structure Wd where
  B : Hp
  al : List Addr
def Le (W W' : Wd) : Prop := Same W.B W'.B ∧ ∃ l, W'.al = W.al ++ l
theorem Le.refl (W : Wd) : Le W W := ⟨Same.refl _, [], by simp⟩
theorem Le.trans {W W1 W2 : Wd} (a : Le W W1) (b : Le W1 W2) : Le W W2 := by
  obtain ⟨a1, l1, e1⟩ := a
  obtain ⟨b1, l2, e2⟩ := b
  exact ⟨a1.trans b1, l1 ++ l2, by rw [e2, e1, List.append_assoc]⟩
theorem Le.at {W W' : Wd} (h : Le W W') {i : Nat} {a : Addr} (e : W.al[i]? = some a) : W'.al[i]? = some a := by
  obtain ⟨_, l, q⟩ := h
  rw [q, List.getElem?_append_left (List.getElem?_eq_some_iff.mp e).1]
  exact e
def RepV (C : Cf) (W : Wd) (v : V) : VD → Prop
  | .d x => Rep C W.B v x
  | .adr i => ∃ a, v = .ref a ∧ W.al[i]? = some a
theorem RepV.mono {C : Cf} {W W' : Wd} {v : V} {d : VD} (e : Le W W') (h : RepV C W v d) : RepV C W' v d := by
  cases d with
  | d x => exact Rep.mono e.1 h
  | adr i =>
    obtain ⟨a, h1, h2⟩ := h
    exact ⟨a, h1, e.at h2⟩
inductive RepVA (C : Cf) (W : Wd) : List V → List VD → Prop
  | nil : RepVA C W [] []
  | cons {v : V} {vs : List V} {d : VD} {ds : List VD} : RepV C W v d → RepVA C W vs ds → RepVA C W (v :: vs) (d :: ds)
theorem RepVA.mono {C : Cf} {W W' : Wd} (e : Le W W') : ∀ {vs : List V} {ds : List VD}, RepVA C W vs ds → RepVA C W' vs ds
  | _, _, .nil => .nil
  | _, _, .cons h r => .cons (h.mono e) (RepVA.mono e r)
theorem RepVA.length {C : Cf} {W : Wd} : ∀ {vs : List V} {ds : List VD}, RepVA C W vs ds → vs.length = ds.length
  | _, _, .nil => rfl
  | _, _, .cons _ r => by rw [List.length_cons, List.length_cons, r.length]
theorem RepA.length {C : Cf} {B : Hp} : ∀ {vs : List V} {ds : List D}, RepA C B vs ds → vs.length = ds.length
  | _, _, .nil => rfl
  | _, _, .cons _ r => by rw [List.length_cons, List.length_cons, r.length]
theorem RepA.get {C : Cf} {B : Hp} : ∀ {vs : List V} {ds : List D} {i : Nat} {d : D}, RepA C B vs ds → ds[i]? = some d → ∃ v, vs[i]? = some v ∧ Rep C B v d
  | _, _, _, _, .nil, e => by simp at e
  | _, _, 0, _, .cons h _, e => by
    simp at e
    subst e
    exact ⟨_, rfl, h⟩
  | _, _, i + 1, _, .cons _ r, e => by
    obtain ⟨v, h1, h2⟩ := RepA.get (i := i) r (by simpa using e)
    exact ⟨v, by simpa using h1, h2⟩
theorem RepA.append {C : Cf} {B : Hp} : ∀ {vs ws : List V} {ds es : List D}, RepA C B vs ds → RepA C B ws es → RepA C B (vs ++ ws) (ds ++ es)
  | _, _, _, _, .nil, s => s
  | _, _, _, _, .cons h r, s => .cons h (RepA.append r s)
theorem RepA.take {C : Cf} {B : Hp} : ∀ {vs : List V} {ds : List D} (n : Nat), RepA C B vs ds → RepA C B (vs.take n) (ds.take n)
  | _, _, 0, _ => .nil
  | _, _, _ + 1, .nil => .nil
  | _, _, n + 1, .cons h r => .cons h (RepA.take n r)
theorem RepA.drop {C : Cf} {B : Hp} : ∀ {vs : List V} {ds : List D} (n : Nat), RepA C B vs ds → RepA C B (vs.drop n) (ds.drop n)
  | _, _, 0, r => r
  | _, _, _ + 1, .nil => .nil
  | _, _, n + 1, .cons _ r => RepA.drop n r
theorem RepA.set {C : Cf} {B : Hp} {v : V} {d : D} (h : Rep C B v d) : ∀ {vs : List V} {ds : List D} (i : Nat), RepA C B vs ds → RepA C B (vs.set i v) (ds.set i d)
  | _, _, _, .nil => .nil
  | _, _, 0, .cons _ r => .cons h r
  | _, _, i + 1, .cons q r => .cons q (RepA.set h i r)
theorem RepVA.get {C : Cf} {W : Wd} : ∀ {vs : List V} {ds : List VD} {i : Nat} {d : VD}, RepVA C W vs ds → ds[i]? = some d → ∃ v, vs[i]? = some v ∧ RepV C W v d
  | _, _, _, _, .nil, e => by simp at e
  | _, _, 0, _, .cons h _, e => by
    simp at e
    subst e
    exact ⟨_, rfl, h⟩
  | _, _, i + 1, _, .cons _ r, e => by
    obtain ⟨v, h1, h2⟩ := RepVA.get (i := i) r (by simpa using e)
    exact ⟨v, by simpa using h1, h2⟩
theorem RepVA.append {C : Cf} {W : Wd} : ∀ {vs ws : List V} {ds es : List VD}, RepVA C W vs ds → RepVA C W ws es → RepVA C W (vs ++ ws) (ds ++ es)
  | _, _, _, _, .nil, s => s
  | _, _, _, _, .cons h r, s => .cons h (RepVA.append r s)
/-- data values alone -/
def dats : List VD → Option (List D)
  | [] => some []
  | .d x :: r => (dats r).map (x :: ·)
  | _ => none
theorem RepVA.dat {C : Cf} {W : Wd} : ∀ {vs : List V} {ds : List VD} {xs : List D}, RepVA C W vs ds → dats ds = some xs → RepA C W.B vs xs
  | _, _, _, .nil, e => by
    cases e
    exact .nil
  | _, _, _, .cons (d := .d x) (ds := ds) h r, e => by
    cases q : dats ds with
    | none =>
      rw [dats, q] at e
      cases e
    | some ys =>
      rw [dats, q] at e
      cases e
      exact .cons h (RepVA.dat r q)
  | _, _, _, .cons (d := .adr i) h r, e => by cases e
def MoOk (C : Cf) (W : Wd) (H : Hp) (a : Addr) : MO → Prop
  | .dead => ∃ o, W.B a = some o
  | .lst ds => W.B a = none ∧ ∃ vs, H a = some (.lst vs) ∧ RepA C W.B vs ds
  | .lsv ds => W.B a = none ∧ ∃ vs, H a = some (.lst vs) ∧ RepVA C W vs ds
  | .dck kvs => W.B a = none ∧ ∃ vs, H a = some (dckO (kvs.map (·.1)) vs) ∧ RepVA C W vs (kvs.map (·.2))
  | .dcp kvs => W.B a = none ∧ ∃ vs, H a = some (dcpO (kvs.map (·.1)) vs) ∧ RepVA C W vs (kvs.map (·.2))
  | .ins c fs => W.B a = none ∧ ∃ dx vs, H a = some (.ins (C.ca c) dx ((C.nm c).zip vs)) ∧ vs.length ≤ (C.nm c).length ∧ RepVA C W vs fs
structure Ok (C : Cf) (W : Wd) (H : Hp) (M : Mem) : Prop where
  sub : Same W.B H
  nd : W.al.Nodup
  len : W.al.length = M.length
  mo : ∀ (i : Nat) (a : Addr) (m : MO), W.al[i]? = some a → M[i]? = some m → MoOk C W H a m
  tab : LamX.Tabs C.tb H
  tbB : ∀ p ∈ C.tb, W.B p.1 = none
  low : Same C.low W.B
/-- no table, nothing of which the heap tells -/
def Plain (o : HO) : Prop := (∀ ps, o ≠ .tbl ps) ∧ ∀ φ, o ≠ .ext φ
theorem plain_lst {vs : List V} : Plain (.lst vs) := ⟨(fun ps h => by cases h), (fun ps h => by cases h)⟩
theorem plain_ins {c dx : Addr} {fs : List (Str × V)} : Plain (.ins c dx fs) := ⟨(fun ps h => by cases h), (fun ps h => by cases h)⟩
theorem plain_dck {ks : List DA} {vs : List V} : Plain (dckO ks vs) := ⟨(fun ps h => by cases h), (fun ps h => by cases h)⟩
theorem plain_dcp {ks : List (List DA)} {vs : List V} : Plain (dcpO ks vs) := ⟨(fun ps h => by cases h), (fun ps h => by cases h)⟩
theorem codeO_ext {c : Addr} {q : Str} : ∃ φ, LamX.CodeO c q = .ext φ := ⟨_, rfl⟩
theorem tab_nlst {C : Cf} {H : Hp} {p : Addr} {vs : List V} (h : LamX.Tabs C.tb H) (e : H p = some (.lst vs)) : ∀ q ∈ C.tb, q.1 ≠ p := fun q hq z => by
  obtain ⟨ps, h1, _⟩ := h q hq
  rw [z, e] at h1
  cases h1
theorem tabs_write {T : List (Addr × Str)} {H : Hp} {a : Addr} {o o' : HO} (h : LamX.Tabs T H) (e : H a = some o) (p : Plain o) : LamX.Tabs T (upd H a o') := fun q hq => by
  obtain ⟨ps, h1, h2, h3⟩ := h q hq
  refine ⟨ps, by rw [upd_ne (fun z => p.1 ps (by rw [z, e] at h1; exact Option.some.inj h1))]; exact h1, h2, fun pos cv hc => ?_⟩
  obtain ⟨c, e1, e2⟩ := h3 pos cv hc
  refine ⟨c, e1, ?_⟩
  rw [upd_ne fun z => ?_]
  · exact e2
  · rw [z, e] at e2
    obtain ⟨φ, hφ⟩ := codeO_ext (c := c) (q := q.2)
    exact p.2 φ ((Option.some.inj e2).trans (by rw [← hφ, z]))
theorem nt_lst {vs : List V} : Plain (.lst vs) := plain_lst
section
variable {C : Cf} {W W' : Wd} {H H' : Hp} {M : Mem} {p a : Addr} {o : HO}
theorem MoOk.ne {m : MO} (ok : Same W.B H) (h : MoOk C W H a m) : H a ≠ none := by
  cases m with
  | dead =>
    obtain ⟨o, e⟩ := h
    rw [ok _ _ e]
    exact fun z => by cases z
  | lst ds =>
    obtain ⟨_, vs, e, _⟩ := h
    rw [e]
    exact fun z => by cases z
  | ins c fs =>
    obtain ⟨_, dx, vs, e, _⟩ := h
    rw [e]
    exact fun z => by cases z
  | lsv ds =>
    obtain ⟨_, vs, e, _⟩ := h
    rw [e]
    exact fun z => by cases z
  | dck ds =>
    obtain ⟨_, vs, e, _⟩ := h
    rw [e]
    exact fun z => by cases z
  | dcp ds =>
    obtain ⟨_, vs, e, _⟩ := h
    rw [e]
    exact fun z => by cases z
theorem Ok.ne (ok : Ok C W H M) (hp : H p = none) {i : Nat} (e : W.al[i]? = some a) : a ≠ p := by
  intro z
  subst z
  have hi : i < M.length := by rw [← ok.len]; exact (List.getElem?_eq_some_iff.mp e).1
  exact (ok.mo i a _ e (List.getElem?_eq_getElem hi)).ne ok.sub hp
theorem Ok.notB (ok : Ok C W H M) (hp : H p = none) : W.B p = none := by
  cases q : W.B p with
  | none => rfl
  | some o =>
    rw [ok.sub p o q] at hp
    cases hp
/-- H grows by things that nobody speaks of -/
theorem Ok.grow (ok : Ok C W H M) (s : Same H H') : Ok C W H' M := by
  refine ⟨ok.sub.trans s, ok.nd, ok.len, fun i a m e1 e2 => ?_, LamX.Tabs.ext ok.tab s, ok.tbB, ok.low⟩
  have q := ok.mo i a m e1 e2
  cases m with
  | dead => exact q
  | lst ds =>
    obtain ⟨q1, vs, q2, q3⟩ := q
    exact ⟨q1, vs, s _ _ q2, q3⟩
  | ins c fs =>
    obtain ⟨q1, dx, vs, q2, q3⟩ := q
    exact ⟨q1, dx, vs, s _ _ q2, q3⟩
  | lsv ds =>
    obtain ⟨q1, vs, q2, q3⟩ := q
    exact ⟨q1, vs, s _ _ q2, q3⟩
  | dck ds =>
    obtain ⟨q1, vs, q2, q3⟩ := q
    exact ⟨q1, vs, s _ _ q2, q3⟩
  | dcp ds =>
    obtain ⟨q1, vs, q2, q3⟩ := q
    exact ⟨q1, vs, s _ _ q2, q3⟩
abbrev Wd.put (W : Wd) (p : Addr) (o : HO) : Wd := ⟨upd W.B p o, W.al⟩
theorem same_upd {B : Hp} (hp : B p = none) : Same B (upd B p o) := fun b u e => by rw [upd_ne (ne_of_none e hp)]; exact e
theorem Le.put (hp : W.B p = none) : Le W (W.put p o) := ⟨same_upd hp, [], by simp⟩
theorem MoOk.world {m : MO} (l : Le W W') (h : MoOk C W H a m) (n : (∀ z, m = z → z ≠ .dead → W'.B a = none)) : MoOk C W' H a m := by
  cases m with
  | dead =>
    obtain ⟨o, e⟩ := h
    exact ⟨o, l.1 _ _ e⟩
  | lst ds =>
    obtain ⟨_, vs, e, r⟩ := h
    exact ⟨n _ rfl (fun z => by cases z), vs, e, r.mono l.1⟩
  | ins c fs =>
    obtain ⟨_, dx, vs, e, q, r⟩ := h
    exact ⟨n _ rfl (fun z => by cases z), dx, vs, e, q, r.mono l⟩
  | lsv ds =>
    obtain ⟨_, vs, e, r⟩ := h
    exact ⟨n _ rfl (fun z => by cases z), vs, e, r.mono l⟩
  | dck ds =>
    obtain ⟨_, vs, e, r⟩ := h
    exact ⟨n _ rfl (fun z => by cases z), vs, e, r.mono l⟩
  | dcp ds =>
    obtain ⟨_, vs, e, r⟩ := h
    exact ⟨n _ rfl (fun z => by cases z), vs, e, r.mono l⟩
theorem MoOk.plain {m : MO} (h : MoOk C W H a m) (n : m ≠ .dead) : ∃ u, H a = some u ∧ Plain u := by
  cases m with
  | dead => exact absurd rfl n
  | lst ds =>
    obtain ⟨_, vs, e, _⟩ := h
    exact ⟨_, e, plain_lst⟩
  | ins c fs =>
    obtain ⟨_, dx, vs, e, _⟩ := h
    exact ⟨_, e, plain_ins⟩
  | lsv ds =>
    obtain ⟨_, vs, e, _⟩ := h
    exact ⟨_, e, plain_lst⟩
  | dck ds =>
    obtain ⟨_, vs, e, _⟩ := h
    exact ⟨_, e, plain_dck⟩
  | dcp ds =>
    obtain ⟨_, vs, e, _⟩ := h
    exact ⟨_, e, plain_dcp⟩
theorem MoOk.freeB {m : MO} (h : MoOk C W H a m) (n : m ≠ .dead) : W.B a = none := by
  cases m with
  | dead => exact absurd rfl n
  | lst ds => exact h.1
  | ins c fs => exact h.1
  | lsv ds => exact h.1
  | dck ds => exact h.1
  | dcp ds => exact h.1
/-- something of H that the world doesn't know, and no mutable thing is, becomes known -/
theorem Ok.know (ok : Ok C W H M) (hp : H p = some o) (hb : W.B p = none) (hn : ∀ i : Nat, W.al[i]? ≠ some p) (nt : ∀ q ∈ C.tb, q.1 ≠ p) : Ok C (W.put p o) H M ∧ Le W (W.put p o) := by
  refine ⟨⟨fun b u e => ?_, ok.nd, ok.len, fun i a m e1 e2 => ?_, ok.tab, fun q hq => by
    show upd W.B p o q.1 = none
    rw [upd_ne (nt q hq)]
    exact ok.tbB q hq, ok.low.trans (same_upd hb)⟩, Le.put hb⟩
  · have e : upd W.B p o b = some u := e
    by_cases q : b = p
    · subst q
      rw [upd_same] at e
      cases e
      exact hp
    · rw [upd_ne q] at e
      exact ok.sub b u e
  · refine (ok.mo i a m e1 e2).world (Le.put hb) fun z e n => ?_
    subst e
    have ne : a ≠ p := fun q => hn i (by rw [← q]; exact e1)
    show upd W.B p o a = none
    rw [upd_ne ne]
    exact (ok.mo i a m e1 e2).freeB n
/-- a new thing that never changes -/
theorem Ok.new (ok : Ok C W H M) (hp : H p = none) : Ok C (W.put p o) (upd H p o) M ∧ Le W (W.put p o) :=
  (ok.grow (same_upd hp)).know upd_same (ok.notB hp) (fun i e => ok.ne hp e rfl) fun q hq z => by
    obtain ⟨ps, h1, _⟩ := ok.tab q hq
    rw [z, hp] at h1
    cases h1
theorem nodup_snoc {l : List Addr} (h : l.Nodup) (n : p ∉ l) : (l ++ [p]).Nodup := by
  rw [List.nodup_append]
  exact ⟨h, by simp, fun a ha b hb => by
    simp at hb
    subst hb
    exact fun e => n (e ▸ ha)⟩
/-- a new thing that changes -/
theorem Ok.newM {m : MO} (ok : Ok C W H M) (hp : H p = none) (hm : MoOk C ⟨W.B, W.al ++ [p]⟩ (upd H p o) p m) : Ok C ⟨W.B, W.al ++ [p]⟩ (upd H p o) (M ++ [m]) ∧ Le W ⟨W.B, W.al ++ [p]⟩ := by
  have l : Le W ⟨W.B, W.al ++ [p]⟩ := ⟨Same.refl _, [p], rfl⟩
  refine ⟨⟨(ok.grow (same_upd hp)).sub, nodup_snoc ok.nd fun h => ?_, by simp [ok.len], fun i a n e1 e2 => ?_, LamX.Tabs.ext ok.tab (same_upd hp), ok.tbB, ok.low⟩, l⟩
  · obtain ⟨i, e⟩ := List.mem_iff_getElem?.mp h
    exact ok.ne hp e rfl
  · have e1' : (W.al ++ [p])[i]? = some a := e1
    by_cases hi : i < M.length
    · rw [List.getElem?_append_left hi] at e2
      rw [List.getElem?_append_left (by rw [ok.len]; exact hi)] at e1'
      have q := (ok.grow (same_upd hp (o := o))).mo i a n e1' e2
      exact q.world l fun z e nd => by
        subst e
        exact q.freeB nd
    · have hi' : i = M.length := by
        have := (List.getElem?_eq_some_iff.mp e2).1
        simp at this
        omega
      subst hi'
      simp at e2
      subst e2
      rw [← ok.len] at e1'
      simp at e1'
      subst e1'
      exact hm
/-- a thing that changes is written -/
theorem Ok.write {m0 m : MO} {i : Nat} (ok : Ok C W H M) (hi : W.al[i]? = some a) (h0 : M[i]? = some m0) (hnd : m0 ≠ .dead) (hm : MoOk C W (upd H a o) a m) : Ok C W (upd H a o) (M.set i m) := by
  have hB := (ok.mo i a m0 hi h0).freeB hnd
  refine ⟨fun b u e => ?_, ok.nd, by rw [List.length_set]; exact ok.len, fun j b n e1 e2 => ?_, by
    obtain ⟨u, e, p⟩ := (ok.mo i a m0 hi h0).plain hnd
    exact tabs_write ok.tab e p, ok.tbB, ok.low⟩
  · rw [upd_ne (ne_of_none e hB)]
    exact ok.sub b u e
  · by_cases hj : j = i
    · subst hj
      rw [hi] at e1
      cases e1
      rw [List.getElem?_set_self (List.getElem?_eq_some_iff.mp h0).1] at e2
      cases e2
      exact hm
    · rw [List.getElem?_set_ne (Ne.symm hj)] at e2
      have ne : b ≠ a := fun q => by
        subst q
        obtain ⟨h1, e1'⟩ := List.getElem?_eq_some_iff.mp e1
        obtain ⟨h2, e2'⟩ := List.getElem?_eq_some_iff.mp hi
        exact hj ((List.getElem_inj ok.nd).mp (e1'.trans e2'.symm))
      have q := ok.mo j b n e1 e2
      cases n with
      | dead => exact q
      | lst ds =>
        obtain ⟨q1, vs, q2, q3⟩ := q
        exact ⟨q1, vs, by rw [upd_ne ne]; exact q2, q3⟩
      | ins c fs =>
        obtain ⟨q1, dx, vs, q2, q3⟩ := q
        exact ⟨q1, dx, vs, by rw [upd_ne ne]; exact q2, q3⟩
      | lsv ds =>
        obtain ⟨q1, vs, q2, q3⟩ := q
        exact ⟨q1, vs, by rw [upd_ne ne]; exact q2, q3⟩
      | dck ds =>
        obtain ⟨q1, vs, q2, q3⟩ := q
        exact ⟨q1, vs, by rw [upd_ne ne]; exact q2, q3⟩
      | dcp ds =>
        obtain ⟨q1, vs, q2, q3⟩ := q
        exact ⟨q1, vs, by rw [upd_ne ne]; exact q2, q3⟩
/-- a thing that changed is let be for ever -/
theorem Wd.put_B {W : Wd} {p : Addr} {o : HO} : (W.put p o).B = upd W.B p o := rfl
theorem Ok.freeze {m0 : MO} {i : Nat} (ok : Ok C W H M) (hi : W.al[i]? = some a) (h0 : M[i]? = some m0) (hnd : m0 ≠ .dead) (hH : H a = some o) : Ok C (W.put a o) H (M.set i .dead) ∧ Le W (W.put a o) := by
  have hB := (ok.mo i a m0 hi h0).freeB hnd
  refine ⟨⟨fun b u e => ?_, ok.nd, by rw [List.length_set]; exact ok.len, fun j b n e1 e2 => ?_, ok.tab, fun q hq => by
    obtain ⟨u, e, p⟩ := (ok.mo i a m0 hi h0).plain hnd
    obtain ⟨ps, h1, _⟩ := ok.tab q hq
    rw [Wd.put_B, upd_ne fun z => p.1 ps (by rw [z, e] at h1; exact Option.some.inj h1)]
    exact ok.tbB q hq, ok.low.trans (same_upd hB)⟩, Le.put hB⟩
  · rw [Wd.put_B] at e
    by_cases q : b = a
    · subst q
      rw [upd_same] at e
      cases e
      exact hH
    · rw [upd_ne q] at e
      exact ok.sub b u e
  · by_cases hj : j = i
    · subst hj
      rw [hi] at e1
      cases e1
      rw [List.getElem?_set_self (List.getElem?_eq_some_iff.mp h0).1] at e2
      cases e2
      exact ⟨o, upd_same⟩
    · rw [List.getElem?_set_ne (Ne.symm hj)] at e2
      have ne : b ≠ a := fun q => by
        subst q
        obtain ⟨h1, e1'⟩ := List.getElem?_eq_some_iff.mp e1
        obtain ⟨h2, e2'⟩ := List.getElem?_eq_some_iff.mp hi
        exact hj ((List.getElem_inj ok.nd).mp (e1'.trans e2'.symm))
      refine (ok.mo j b n e1 e2).world (Le.put hB) fun z e nd => ?_
      subst e
      show upd W.B a o b = none
      rw [upd_ne ne]
      exact (ok.mo j b n e1 e2).freeB nd
end
structure Step (W : Wd) (H : Hp) (W' : Wd) (H' : Hp) : Prop where
  le : Le W W'
  fr : ∀ (a : Addr) (o : HO), H a = some o → W.B a = none → (∀ i : Nat, W.al[i]? ≠ some a) → Plain o → H' a = some o ∧ W'.B a = none ∧ ∀ i : Nat, W'.al[i]? ≠ some a
theorem Step.refl (W : Wd) (H : Hp) : Step W H W H := ⟨Le.refl W, fun _ _ h1 h2 h3 _ => ⟨h1, h2, h3⟩⟩
theorem Step.trans {W W1 W2 : Wd} {H H1 H2 : Hp} (a : Step W H W1 H1) (b : Step W1 H1 W2 H2) : Step W H W2 H2 := ⟨a.le.trans b.le, fun x o h1 h2 h3 h4 => by
  obtain ⟨q1, q2, q3⟩ := a.fr x o h1 h2 h3 h4
  exact b.fr x o q1 q2 q3 h4⟩
section
variable {C : Cf} {W W' : Wd} {H H' : Hp} {M : Mem} {p a : Addr} {o : HO}
/-- what was not there becomes known -/
theorem Step.put (st : Step W H W' H') (hp : H p = none) (hb : W'.B p = none) : Step W H (W'.put p o) H' := ⟨st.le.trans (Le.put hb), fun x u h1 h2 h3 h4 => by
  obtain ⟨q1, q2, q3⟩ := st.fr x u h1 h2 h3 h4
  refine ⟨q1, ?_, q3⟩
  show upd W'.B p o x = none
  rw [upd_ne (ne_of_none h1 hp)]
  exact q2⟩
theorem Step.grow (hp : H p = none) : Step W H W (upd H p o) := ⟨Le.refl W, fun x u h1 h2 h3 _ => ⟨by rw [upd_ne (ne_of_none h1 hp)]; exact h1, h2, h3⟩⟩
theorem Step.new (ok : Ok C W H M) (hp : H p = none) : Step W H (W.put p o) (upd H p o) := (Step.grow hp).put hp (ok.notB hp)
theorem Step.newM (ok : Ok C W H M) (hp : H p = none) : Step W H ⟨W.B, W.al ++ [p]⟩ (upd H p o) := ⟨⟨Same.refl _, [p], rfl⟩, fun x u h1 h2 h3 _ => by
  have ne := ne_of_none h1 hp
  refine ⟨by rw [upd_ne ne]; exact h1, h2, fun i e => ?_⟩
  have e : (W.al ++ [p])[i]? = some x := e
  by_cases hi : i < W.al.length
  · rw [List.getElem?_append_left hi] at e
    exact h3 i e
  · rw [List.getElem?_append_right (by omega)] at e
    cases q : i - W.al.length with
    | zero =>
      rw [q] at e
      exact ne (Option.some.inj e).symm
    | succ n =>
      rw [q] at e
      simp at e⟩
theorem Step.write {i : Nat} (hi : W.al[i]? = some a) : Step W H W (upd H a o) := ⟨Le.refl W, fun x u h1 h2 h3 _ => ⟨by rw [upd_ne (fun e => h3 i (by rw [hi, e]))]; exact h1, h2, h3⟩⟩
theorem Step.freeze {i : Nat} (hi : W.al[i]? = some a) (hB : W.B a = none) : Step W H (W.put a o) H := ⟨Le.put hB, fun x u h1 h2 h3 _ => by
  refine ⟨h1, ?_, h3⟩
  show upd W.B a o x = none
  rw [upd_ne (fun e => h3 i (by rw [hi, e]))]
  exact h2⟩
end
inductive Res (α : Type) where
  | ok (v : α) (M : Mem) | exc (c : Nat) (fs : List D) (M : Mem) | fail
def Res.bind {α β : Type} (r : Res α) (k : α → Mem → Res β) : Res β := match r with
  | .ok v M => k v M
  | .exc c fs M => .exc c fs M
  | .fail => .fail
abbrev Env := List (Option VD)
abbrev Mx (α : Type) := Env → Mem → Res α
/-- an exception as it lies behind -/
def ExcAt (C : Cf) (W : Wd) (dx : Addr) (c : Nat) (fs : List D) : Prop := Rep C W.B (.ref dx) (.exn c fs)
def ePost (C : Cf) (E : XK) (W : Wd) (H : Hp) (c : Nat) (fs : List D) (M : Mem) : Prop :=
  ∀ W' H' dx, Step W H W' H' → Ok C W' H' M → ExcAt C W' dx c fs → E (.ref (C.ca c)) (some dx) H'
def post {α β : Type} (C : Cf) (rel : Wd → β → α → Prop) (E : XK) (Q : β → Hp → Prop) (W : Wd) (H : Hp) (r : Res α) : Prop := match r with
  | .ok v M => ∀ W' H' x, Step W H W' H' → Ok C W' H' M → rel W' x v → Q x H'
  | .exc c fs M => ePost C E W H c fs M
  | .fail => False
theorem ePost.mono {C : Cf} {E : XK} {W W' : Wd} {H H' : Hp} {c : Nat} {fs : List D} {M : Mem} (l : Step W H W' H') (h : ePost C E W H c fs M) : ePost C E W' H' c fs M := fun W2 H2 dx l2 => h W2 H2 dx (l.trans l2)
section
variable {C : Cf} {E : XK} {W W' : Wd} {H H' : Hp} {α β γ δ : Type} {rel : Wd → β → α → Prop} {rel2 : Wd → δ → γ → Prop} {Q : β → Hp → Prop} {Q2 : δ → Hp → Prop}
theorem post.mono {r : Res α} (l : Step W H W' H') (h : post C rel E Q W H r) : post C rel E Q W' H' r := by
  cases r with
  | ok v M => exact fun W2 H2 x l2 => h W2 H2 x (l.trans l2)
  | exc c fs M => exact ePost.mono l h
  | fail => exact h
theorem post_bind {r : Res α} {k : α → Mem → Res γ} (h : post C rel2 E Q2 W H (r.bind k)) (hk : ∀ a M1 W1 H1 x, Step W H W1 H1 → Ok C W1 H1 M1 → rel W1 x a → post C rel2 E Q2 W1 H1 (k a M1) → Q x H1) : post C rel E Q W H r := by
  cases r with
  | ok v M => exact fun W1 H1 x l ok1 ra => hk v M W1 H1 x l ok1 ra (post.mono l h)
  | exc c fs M => exact h
  | fail => exact h
end
def relB : Wd → Bool → Bool → Prop := fun _ x y => x = y
def Slots (C : Cf) (W : Wd) (σ : L2.St) (ρ : Env) : Prop := σ.length = ρ.length ∧ ∀ (i : Nat) (d : VD), ρ[i]? = some (some d) → ∃ v, σ[i]? = some (some v) ∧ RepV C W v d
theorem Slots.mono {C : Cf} {W W' : Wd} {σ : L2.St} {ρ : Env} (l : Le W W') (h : Slots C W σ ρ) : Slots C W' σ ρ := ⟨h.1, fun i d e => by
  obtain ⟨v, h1, h2⟩ := h.2 i d e
  exact ⟨v, h1, h2.mono l⟩⟩
theorem Slots.set {C : Cf} {W : Wd} {σ : L2.St} {ρ : Env} {i : Nat} {v : V} {d : VD} (h : Slots C W σ ρ) (r : RepV C W v d) : Slots C W (σ.set i (some v)) (ρ.set i (some d)) := ⟨by rw [List.length_set, List.length_set]; exact h.1, fun j e q => by
  by_cases hj : i = j
  · subst hj
    have hi : i < ρ.length := by
      have := (List.getElem?_eq_some_iff.mp q).1
      simpa using this
    rw [List.getElem?_set_self hi] at q
    cases q
    exact ⟨v, List.getElem?_set_self (by rw [h.1]; exact hi), r⟩
  · rw [List.getElem?_set_ne hj] at q
    obtain ⟨w, h1, h2⟩ := h.2 j e q
    exact ⟨w, by rw [List.getElem?_set_ne hj]; exact h1, h2⟩⟩
theorem Slots.unset {C : Cf} {W : Wd} {σ : L2.St} {ρ : Env} {i : Nat} (h : Slots C W σ ρ) : Slots C W (σ.set i none) (ρ.set i none) := ⟨by rw [List.length_set, List.length_set]; exact h.1, fun j e q => by
  by_cases hj : i = j
  · subst hj
    have hi : i < ρ.length := by
      have := (List.getElem?_eq_some_iff.mp q).1
      simpa using this
    rw [List.getElem?_set_self hi] at q
    cases q
  · rw [List.getElem?_set_ne hj] at q
    obtain ⟨w, h1, h2⟩ := h.2 j e q
    exact ⟨w, by rw [List.getElem?_set_ne hj]; exact h1, h2⟩⟩
abbrev relV (C : Cf) : Wd → V → VD → Prop := fun W v d => RepV C W v d
abbrev relA (C : Cf) : Wd → List V → List VD → Prop := fun W v d => RepVA C W v d
def Sem (C : Cf) (E : XK) (te : TE) (m : Mx VD) : Prop := ∀ W σ H ρ M Q, Ok C W H M → Slots C W σ ρ → post C (relV C) E Q W H (m ρ M) → te σ H Q
def SemT (C : Cf) (E : XK) (tt : TT) (m : Mx Bool) : Prop := ∀ W σ H ρ M Q, Ok C W H M → Slots C W σ ρ → post C relB E Q W H (m ρ M) → tt σ H Q
def SemA (C : Cf) (E : XK) (ta : TA) (m : Mx (List VD)) : Prop := ∀ W σ H ρ M Q, Ok C W H M → Slots C W σ ρ → post C (relA C) E Q W H (m ρ M) → ta σ H Q
/-- expression, test, arguments -/
structure PX (X : Cx) (C : Cf) (E : XK) (e : Expr) (m : Mx VD) : Prop where
  ex : ∃ te, PE X e te ∧ Sem C E te m
structure PXT (X : Cx) (C : Cf) (E : XK) (e : Expr) (m : Mx Bool) : Prop where
  ex : ∃ tt, PT X e tt ∧ SemT C E tt m
structure PXW (X : Cx) (C : Cf) (E : XK) (e : Expr) (m : Mx Bool) : Prop where
  ex : ∃ tt, PW X e tt ∧ SemT C E tt m
structure PXA (X : Cx) (C : Cf) (E : XK) (es : List Expr) (m : Mx (List VD)) : Prop where
  ex : ∃ ta, PA X es ta ∧ SemA C E ta m
def OpS (C : Cf) (E : XK) (r : R2) (f : VD → VD → Mem → Res VD) : Prop := ∀ W H M x y a b Q, Ok C W H M → RepV C W x a → RepV C W y b → post C (relV C) E Q W H (f a b M) → r x y H Q
def CallS (C : Cf) (E : XK) (r : List V → Hp → VK → Prop) (f : List VD → Mem → Res VD) : Prop := ∀ W H M xs as Q, Ok C W H M → RepVA C W xs as → post C (relV C) E Q W H (f as M) → r xs H Q
section
variable {X : Cx} {C : Cf} {E : XK}
def e_var (i : Nat) : Mx VD := fun ρ M => match ρ[i]? with
  | some (some d) => .ok d M
  | _ => .fail
theorem x_var (i : Nat) {x : Str} {pos : Pos} (hN : X.N[i]? = some x := by rfl) (hv : Vis X.env.scope x := by first | exact Or.inl rfl | exact Or.inr (Or.inl rfl) | exact Or.inr (Or.inr rfl)) (hd : (x == ("__debug__" : Str)) = false := by decide)
    (hcd : (x == ("__classdict__" : Str)) = false := by decide) : PX X C E (.Name x pos) (e_var i) := ⟨_, pe_var (hN := hN) (hv := hv) (hd := hd) (hcd := hcd), fun W σ H ρ M Q ok sl p => by
  unfold e_var at p
  split at p
  · rename_i d e
    obtain ⟨v, h1, h2⟩ := sl.2 i d e
    exact ⟨v, h1, p W H v (Step.refl _ _) ok h2⟩
  · exact p.elim⟩
def e_c (d : D) : Mx VD := fun _ M => .ok (.d d) M
theorem sem_c {v : V} {d : D} (h : ∀ B, Rep C B v d) : Sem C E (tC v) (e_c d) := fun W σ H ρ M Q ok sl p => p W H v (Step.refl _ _) ok (h _)
theorem x_int {i : Int} {j} {pos : Pos} : PX X C E (.Constant (.int i) j pos) (e_c (.int i)) := ⟨_, pe_int, sem_c fun _ => .int i⟩
theorem x_bl {i : Bool} {j} {pos : Pos} : PX X C E (.Constant (.bool i) j pos) (e_c (.bl i)) := ⟨_, pe_bl, sem_c fun _ => .bl i⟩
theorem x_non {j} {pos : Pos} : PX X C E (.Constant .none j pos) (e_c .non) := ⟨_, pe_non, sem_c fun _ => .non⟩
theorem x_str (l : List Nat) {x : Str} {j} {pos : Pos} (h : x.cps.toList = l := by decide +kernel) : PX X C E (.Constant (.str x) j pos) (e_c (.str l)) := by
  have e : x = enc l := by
    cases x
    subst h
    simp [enc]
  subst e
  exact ⟨_, pe_str, sem_c fun _ => .str l⟩
/-- a module's constant -/
theorem x_globI {i : Int} {x : Str} {pos : Pos} (hg : Gl X x) (hm : ∃ t, X.mg x = some (.int i t)) (hd : (x == ("__debug__" : Str)) = false := by decide) : PX X C E (.Name x pos) (e_c (.int i)) := by
  obtain ⟨t, hm⟩ := hm
  exact ⟨_, pe_glob (v := .int i) hg hm ⟨t, rfl⟩ (hd := hd), sem_c fun _ => .int i⟩
theorem x_globS (l : List Nat) {s : Str} {x : Str} {pos : Pos} (hg : Gl X x) (hm : ∃ t, X.mg x = some (.str s t)) (h : s.cps.toList = l := by decide +kernel) (hd : (x == ("__debug__" : Str)) = false := by decide) : PX X C E (.Name x pos) (e_c (.str l)) := by
  obtain ⟨t, hm⟩ := hm
  have e : s = enc l := by
    cases s
    subst h
    simp [enc]
  subst e
  exact ⟨_, pe_glob (v := .str (enc l)) hg hm ⟨t, rfl⟩ (hd := hd), sem_c fun _ => .str l⟩
def e_op (f : VD → VD → Mem → Res VD) (a b : Mx VD) : Mx VD := fun ρ M => (a ρ M).bind fun x M1 => (b ρ M1).bind fun y M2 => f x y M2
theorem sem_op {r : R2} {ta tb : TE} {f} {ma mb : Mx VD} (hr : OpS C E r f) (ha : Sem C E ta ma) (hb : Sem C E tb mb) : Sem C E (tOp r ta tb) (e_op f ma mb) := fun W σ H ρ M Q ok sl p => by
  refine ha W σ H ρ M _ ok sl (post_bind p fun a M1 W1 H1 x l1 ok1 ra p1 => ?_)
  refine hb W1 σ H1 ρ M1 _ ok1 (sl.mono l1.le) (post_bind p1 fun b M2 W2 H2 y l2 ok2 rb p2 => ?_)
  exact hr W2 H2 M2 x y a b Q ok2 (ra.mono l2.le) rb p2
theorem x_op {op : Operator} {r : R2} {f} {a b : Expr} {ma mb : Mx VD} {pos : Pos} (ho : OpR X (binaryOp op) r) (hr : OpS C E r f) (ha : PX X C E a ma) (hb : PX X C E b mb) : PX X C E (.BinOp a op b pos) (e_op f ma mb) := by
  obtain ⟨ta, pa, sa⟩ := ha
  obtain ⟨tb, pb, sb⟩ := hb
  exact ⟨_, pe_op ho pa pb, sem_op hr sa sb⟩
theorem x_cmp {op : CmpOp} {r : R2} {f} {a b : Expr} {ma mb : Mx VD} {pos : Pos} (ho : OpR X (compareOp op) r) (hr : OpS C E r f) (ha : PX X C E a ma) (hb : PX X C E b mb) (hm : behindInMarks op b = false := by first | rfl | exact nomark _) : PX X C E (.Compare a [op] [b] pos) (e_op f ma mb) := by
  obtain ⟨ta, pa, sa⟩ := ha
  obtain ⟨tb, pb, sb⟩ := hb
  exact ⟨_, pe_cmpR ho pa pb hm, sem_op hr sa sb⟩
end
end G
namespace G
open PySem PySem.Spec PyProof.Rows L2
def lim : Nat := 1000000
theorem lim_le {n : Nat} (h : n ≤ lim) : n ≤ sizeLine := Nat.le_trans h (by decide)
theorem lim_lt {n : Nat} (h : n < lim) : n < sizeLine := Nat.lt_of_lt_of_le h (by decide)
section
variable {X : Cx} {C : Cf} {E : XK}
theorem enc_len (s : List Nat) : (enc s).length = s.length := by simp [enc, Str.length]
theorem enc_app (s t : List Nat) : enc s ++ enc t = enc (s ++ t) := by
  show Str.append (enc s) (enc t) = _
  simp [enc, Str.append]
theorem enc_inj {s t : List Nat} (h : enc s = enc t) : s = t := by
  have := congrArg (fun z => z.cps.toList) h
  simpa [enc] using this
theorem post_ok {α β : Type} {rel : Wd → β → α → Prop} {Q : β → Hp → Prop} {W : Wd} {H : Hp} {M : Mem} {v : α} {x : β} (p : post C rel E Q W H (.ok v M)) (ok : Ok C W H M) (r : rel W x v) : Q x H := p W H x (Step.refl _ _) ok r
/-- a new list, a new tuple, as data -/
theorem post_lst {W : Wd} {H : Hp} {M : Mem} {Q : VK} {vs : List V} {ds : List D} (p : post C (relV C) E Q W H (.ok (.d (.lst ds)) M)) (ok : Ok C W H M) (r : RepA C W.B vs ds) : ∀ q, H q = none → Q (.ref q) (upd H q (.lst vs)) := fun q hq => by
  obtain ⟨ok', l⟩ := ok.new (o := .lst vs) hq
  exact p _ _ _ (Step.new ok hq) ok' (Rep.lst (by show upd W.B q _ q = _; rw [upd_same]) (r.mono l.1))
theorem post_tup {W : Wd} {H : Hp} {M : Mem} {Q : VK} {vs : List V} {ds : List D} (p : post C (relV C) E Q W H (.ok (.d (.tup ds)) M)) (ok : Ok C W H M) (r : RepA C W.B vs ds) : ∀ q, H q = none → Q (.ref q) (upd H q (.tup vs)) := fun q hq => by
  obtain ⟨ok', l⟩ := ok.new (o := .tup vs) hq
  exact p _ _ _ (Step.new ok hq) ok' (Rep.tup (.inl (.inl (by show upd W.B q _ q = _; rw [upd_same]))) (r.mono l.1))
/-- a list, a tuple, as it is read -/
def seqOf (M : Mem) : VD → Option (List D)
  | .d (.lst ds) => some ds
  | .d (.tup ds) => some ds
  | .d (.scr ns) => some (ns.map .int)
  | .adr i => match M[i]? with
    | some (.lst ds) => some ds
    | _ => none
  | _ => none
theorem repA_ints {B : Hp} : ∀ ns : List Int, RepA C B (ns.map V.int) (ns.map D.int)
  | [] => .nil
  | n :: ns => .cons (.int n) (repA_ints ns)
theorem seq_read {W : Wd} {H : Hp} {M : Mem} {x : V} {a : VD} {ds : List D} (ok : Ok C W H M) (r : RepV C W x a) (h : seqOf M a = some ds) : ∃ p vs, x = .ref p ∧ (SqL C.K H p vs ∨ SqT C.K H p vs) ∧ RepA C W.B vs ds := by
  unfold seqOf at h
  split at h
  · cases h
    cases (show Rep C W.B x (.lst ds) from r) with
    | lst h1 h2 => exact ⟨_, _, rfl, .inl (.inl (.inl (ok.sub _ _ h1))), h2⟩
  · cases h
    cases (show Rep C W.B x (.tup ds) from r) with
    | tup h1 h2 => exact ⟨_, _, rfl, .inr (sqT_sub ok.sub h1), h2⟩
  · rename_i ns
    cases h
    cases (show Rep C W.B x (.scr ns) from r) with
    | scr h1 => exact ⟨_, _, rfl, .inl (sqL_sub ok.sub h1), repA_ints _⟩
  · rename_i i
    obtain ⟨q, rfl, hq⟩ := r
    split at h
    · rename_i e
      cases h
      obtain ⟨_, vs, h1, h2⟩ := ok.mo i q _ hq e
      exact ⟨q, vs, rfl, .inl (SqL.of h1), h2⟩
    · cases h
  · cases h
def lsqOf (M : Mem) : VD → Option (List D)
  | .d (.lst ds) => some ds
  | .d (.scr ns) => some (ns.map .int)
  | .adr i => match M[i]? with
    | some (.lst ds) => some ds
    | _ => none
  | _ => none
theorem lsq_read {W : Wd} {H : Hp} {M : Mem} {x : V} {a : VD} {ds : List D} (ok : Ok C W H M) (r : RepV C W x a) (h : lsqOf M a = some ds) : ∃ p vs, x = .ref p ∧ SqL C.K H p vs ∧ RepA C W.B vs ds := by
  unfold lsqOf at h
  split at h
  · cases h
    cases (show Rep C W.B x (.lst ds) from r) with
    | lst h1 h2 => exact ⟨_, _, rfl, .inl (.inl (ok.sub _ _ h1)), h2⟩
  · rename_i ns
    cases h
    cases (show Rep C W.B x (.scr ns) from r) with
    | scr h1 => exact ⟨_, _, rfl, sqL_sub ok.sub h1, repA_ints _⟩
  · rename_i i
    obtain ⟨q, rfl, hq⟩ := r
    split at h
    · rename_i e
      cases h
      obtain ⟨_, vs, h1, h2⟩ := ok.mo i q _ hq e
      exact ⟨q, vs, rfl, SqL.of h1, h2⟩
    · cases h
  · cases h
def lstOf (M : Mem) : VD → Option (List D)
  | .d (.lst ds) => some ds
  | .adr i => match M[i]? with
    | some (.lst ds) => some ds
    | _ => none
  | _ => none
theorem lst_read {W : Wd} {H : Hp} {M : Mem} {x : V} {a : VD} {ds : List D} (ok : Ok C W H M) (r : RepV C W x a) (h : lstOf M a = some ds) : ∃ p vs, x = .ref p ∧ H p = some (.lst vs) ∧ RepA C W.B vs ds := by
  unfold lstOf at h
  split at h
  · cases h
    cases (show Rep C W.B x (.lst ds) from r) with
    | lst h1 h2 => exact ⟨_, _, rfl, ok.sub _ _ h1, h2⟩
  · rename_i i
    obtain ⟨q, rfl, hq⟩ := r
    split at h
    · rename_i e
      cases h
      obtain ⟨_, vs, h1, h2⟩ := ok.mo i q _ hq e
      exact ⟨q, vs, rfl, h1, h2⟩
    · cases h
  · cases h
theorem inv_int {W : Wd} {x : V} {i : Int} (r : RepV C W x (.d (.int i))) : x = .int i := by cases (show Rep C W.B x (.int i) from r); rfl
theorem inv_bl {W : Wd} {x : V} {i : Bool} (r : RepV C W x (.d (.bl i))) : x = .bl i := by cases (show Rep C W.B x (.bl i) from r); rfl
theorem inv_non {W : Wd} {x : V} (r : RepV C W x (.d .non)) : x = .non := by cases (show Rep C W.B x .non from r); rfl
theorem inv_str {W : Wd} {x : V} {s : List Nat} (r : RepV C W x (.d (.str s))) : x = .str (enc s) := by cases (show Rep C W.B x (.str s) from r); rfl
def f_add : VD → VD → Mem → Res VD
  | .d (.int i), .d (.int j), M => .ok (.d (.int (i + j))) M
  | .d (.str s), .d (.str t), M => if s.length + t.length ≤ lim then .ok (.d (.str (s ++ t))) M else .fail
  | .d (.lst s), .d (.lst t), M => if s.length + t.length ≤ lim then .ok (.d (.lst (s ++ t))) M else .fail
  | .d (.tup s), .d (.tup t), M => if s.length + t.length ≤ lim then .ok (.d (.tup (s ++ t))) M else .fail
  | _, _, _ => .fail
def r_add (K : PySem.W.Frag) : R2 := fun x y H Q => (rI0 (fun i j => .int (i + j))) x y H Q ∨ ((fun x y H Q => ∃ i j, x = .str i ∧ y = .str j ∧ i.length + j.length ≤ sizeLine ∧ Q (.str (i ++ j)) H : R2) x y H Q ∨ (rCat x y H Q ∨ rCatA K x y H Q))
theorem o_add : OpR X (binaryOp .Add) (r_add X.K) := OpR.or op_add (OpR.or op_add_str (OpR.or op_cat op_catA))
theorem p_add : OpS C E (r_add C.K) f_add := fun W H M x y a b Q ok ra rb p => by
  unfold f_add at p
  split at p
  · cases inv_int ra
    cases inv_int rb
    exact .inl ⟨_, _, rfl, rfl, post_ok p ok (.int _)⟩
  · rename_i s t
    split at p
    · rename_i h
      cases inv_str ra
      cases inv_str rb
      refine .inr (.inl ⟨_, _, rfl, rfl, ?_, ?_⟩)
      · rw [enc_len, enc_len]
        exact lim_le h
      · rw [enc_app]
        exact post_ok p ok (.str _)
    · exact p.elim
  · rename_i s t
    split at p
    · rename_i h
      cases (show Rep C W.B x (.lst s) from ra) with
      | lst h1 h2 =>
        cases (show Rep C W.B y (.lst t) from rb) with
        | lst h3 h4 =>
          exact .inr (.inr (.inl ⟨_, _, _, _, rfl, rfl, ok.sub _ _ h1, ok.sub _ _ h3, by rw [h2.length, h4.length]; exact lim_le h, post_lst p ok (h2.append h4)⟩))
    · exact p.elim
  · rename_i s t
    split at p
    · rename_i h
      cases (show Rep C W.B x (.tup s) from ra) with
      | tup h1 h2 =>
        cases (show Rep C W.B y (.tup t) from rb) with
        | tup h3 h4 =>
          refine .inr (.inr (.inr ⟨_, _, _, _, rfl, rfl, sqT_sub ok.sub h1, sqT_sub ok.sub h3, by rw [h2.length, h4.length]; exact lim_le h, fun e => ?_, fun _ e => ?_, fun _ _ => post_tup p ok (h2.append h4)⟩))
          · subst e
            cases h2
            exact post_ok p ok (Rep.tup h3 h4)
          · subst e
            cases h4
            rw [List.append_nil] at p
            exact post_ok p ok (Rep.tup h1 h2)
    · exact p.elim
  · exact p.elim
theorem x_add {a b : Expr} {ma mb : Mx VD} {pos : Pos} (hK : C.K = X.K) (ha : PX X C E a ma) (hb : PX X C E b mb) : PX X C E (.BinOp a .Add b pos) (e_op f_add ma mb) := x_op (by rw [hK]; exact o_add) p_add ha hb
def f_sub : VD → VD → Mem → Res VD
  | .d (.int i), .d (.int j), M => .ok (.d (.int (i - j))) M
  | _, _, _ => .fail
theorem p_sub : OpS C E (rI0 (fun i j => .int (i - j))) f_sub := fun W H M x y a b Q ok ra rb p => by
  unfold f_sub at p
  split at p
  · cases inv_int ra
    cases inv_int rb
    exact ⟨_, _, rfl, rfl, post_ok p ok (.int _)⟩
  · exact p.elim
theorem x_sub {a b : Expr} {ma mb : Mx VD} {pos : Pos} (ha : PX X C E a ma) (hb : PX X C E b mb) : PX X C E (.BinOp a .Sub b pos) (e_op f_sub ma mb) := x_op op_sub p_sub ha hb
noncomputable def f_mod : VD → VD → Mem → Res VD
  | .d (.int i), .d (.int j), M => gi (0 < j) (.ok (.d (.int (i % j))) M) .fail
  | _, _, _ => .fail
theorem p_mod : OpS C E (rI (fun _ j => 0 < j) fun i j => .int (i % j)) f_mod := fun W H M x y a b Q ok ra rb p => by
  unfold f_mod at p
  split at p
  · unfold gi at p
    split at p
    · rename_i h
      cases inv_int ra
      cases inv_int rb
      exact ⟨_, _, rfl, rfl, h, post_ok p ok (.int _)⟩
    · exact p.elim
  · exact p.elim
theorem x_mod {a b : Expr} {ma mb : Mx VD} {pos : Pos} (ha : PX X C E a ma) (hb : PX X C E b mb) : PX X C E (.BinOp a .Mod b pos) (e_op f_mod ma mb) := x_op op_mod p_mod ha hb
noncomputable def f_fdiv : VD → VD → Mem → Res VD
  | .d (.int i), .d (.int j), M => gi (0 < j ∧ j < 1073741824) (.ok (.d (.int (i / j))) M) .fail
  | _, _, _ => .fail
theorem p_fdiv : OpS C E (rI CDiv fun i j => .int (i / j)) f_fdiv := fun W H M x y a b Q ok ra rb p => by
  unfold f_fdiv at p
  split at p
  · unfold gi at p
    split at p
    · rename_i h
      cases inv_int ra
      cases inv_int rb
      exact ⟨_, _, rfl, rfl, h, post_ok p ok (.int _)⟩
    · exact p.elim
  · exact p.elim
theorem x_fdiv {a b : Expr} {ma mb : Mx VD} {pos : Pos} (ha : PX X C E a ma) (hb : PX X C E b mb) : PX X C E (.BinOp a .FloorDiv b pos) (e_op f_fdiv ma mb) := x_op op_fdiv p_fdiv ha hb
/-- numbers below 2^64 in size, a list a few times -/
noncomputable def f_mul : VD → VD → Mem → Res VD
  | .d (.int i), .d (.int j), M => gi ((-(2 ^ 64) < i ∧ i < 2 ^ 64) ∨ (-(2 ^ 64) < j ∧ j < 2 ^ 64)) (.ok (.d (.int (i * j))) M) .fail
  | .d (.lst s), .d (.int j), M => gi (j < 2 ^ 60 ∧ -(2 ^ 60) < j ∧ s.length * j.toNat ≤ lim) (.ok (.d (.lst (List.replicate j.toNat s).flatten)) M) .fail
  | _, _, _ => .fail
theorem RepA.rep {B : Hp} {vs : List V} {ds : List D} (h : RepA C B vs ds) : ∀ n : Nat, RepA C B (List.replicate n vs).flatten (List.replicate n ds).flatten
  | 0 => .nil
  | n + 1 => by
    rw [List.replicate_succ, List.replicate_succ, List.flatten_cons, List.flatten_cons]
    exact h.append (RepA.rep h n)
def r_mul : R2 := fun x y H Q => (rI CMul fun i j => .int (i * j)) x y H Q ∨ rRep x y H Q
theorem o_mul : OpR X (binaryOp .Mult) r_mul := OpR.or op_mul op_rep
theorem p_mul : OpS C E r_mul f_mul := fun W H M x y a b Q ok ra rb p => by
  unfold f_mul at p
  split at p
  · unfold gi at p
    split at p
    · rename_i h
      cases inv_int ra
      cases inv_int rb
      exact .inl ⟨_, _, rfl, rfl, h, post_ok p ok (.int _)⟩
    · exact p.elim
  · rename_i s j
    unfold gi at p
    split at p
    · rename_i h
      cases inv_int rb
      cases (show Rep C W.B x (.lst s) from ra) with
      | lst h1 h2 =>
        obtain ⟨g1, g2, g3⟩ := h
        exact .inr ⟨_, _, _, rfl, rfl, ok.sub _ _ h1, by omega, by omega, by rw [h2.length]; exact lim_le g3, post_lst p ok (h2.rep _)⟩
    · exact p.elim
  · exact p.elim
theorem x_mul {a b : Expr} {ma mb : Mx VD} {pos : Pos} (ha : PX X C E a ma) (hb : PX X C E b mb) : PX X C E (.BinOp a .Mult b pos) (e_op f_mul ma mb) := x_op o_mul p_mul ha hb
def ltL : List Nat → List Nat → Bool := fun a b => decide (a < b)
def f_cmp (pi : Int → Int → Bool) (ps : List Nat → List Nat → Bool) : VD → VD → Mem → Res VD
  | .d (.int i), .d (.int j), M => .ok (.d (.bl (pi i j))) M
  | .d (.str s), .d (.str t), M => .ok (.d (.bl (ps s t))) M
  | _, _, _ => .fail
def r_cmp (pi : Int → Int → Bool) (ps : List Nat → List Nat → Bool) : R2 := fun x y H Q => rI0 (fun i j => .bl (pi i j)) x y H Q ∨ (∃ i j, x = .str i ∧ y = .str j ∧ Q (.bl (ps i.cps.toList j.cps.toList)) H)
theorem p_cmp {pi : Int → Int → Bool} {ps : List Nat → List Nat → Bool} : OpS C E (r_cmp pi ps) (f_cmp pi ps) := fun W H M x y a b Q ok ra rb p => by
  unfold f_cmp at p
  split at p
  · cases inv_int ra
    cases inv_int rb
    exact .inl ⟨_, _, rfl, rfl, post_ok p ok (.bl _)⟩
  · cases inv_str ra
    cases inv_str rb
    refine .inr ⟨_, _, rfl, rfl, post_ok p ok ?_⟩
    have e : ∀ s, (enc s).cps.toList = s := fun s => by simp [enc]
    rw [e, e]
    exact .bl _
  · exact p.elim
def f_lt := f_cmp (fun i j => decide (i < j)) (fun s t => ltL s t)
def f_le := f_cmp (fun i j => decide (i ≤ j)) (fun s t => !ltL t s)
def f_gt := f_cmp (fun i j => decide (j < i)) (fun s t => ltL t s)
def f_ge := f_cmp (fun i j => decide (j ≤ i)) (fun s t => !ltL s t)
theorem o_lt : OpR X (compareOp .Lt) (r_cmp (fun i j => decide (i < j)) (fun s t => ltL s t)) := OpR.or op_lt op_lt_str
theorem o_le : OpR X (compareOp .LtE) (r_cmp (fun i j => decide (i ≤ j)) (fun s t => !ltL t s)) := OpR.or op_le op_le_str
theorem o_gt : OpR X (compareOp .Gt) (r_cmp (fun i j => decide (j < i)) (fun s t => ltL t s)) := OpR.or op_gt op_gt_str
theorem o_ge : OpR X (compareOp .GtE) (r_cmp (fun i j => decide (j ≤ i)) (fun s t => !ltL s t)) := OpR.or op_ge op_ge_str
end
mutual
def D.eqv : D → D → Bool
  | .non, .non => true
  | .bl a, .bl b => a == b
  | .bl a, .int j => (if a then 1 else 0) == j
  | .int i, .bl b => i == (if b then 1 else 0)
  | .int i, .int j => i == j
  | .str x, .str y => x == y
  | .lst xs, .lst ys => D.eqvA xs ys
  | .tup xs, .tup ys => D.eqvA xs ys
  | _, _ => false
def D.eqvA : List D → List D → Bool
  | [], [] => true
  | x :: xs, y :: ys => D.eqv x y && D.eqvA xs ys
  | _, _ => false
end
mutual
/-- no objects, at most n deep -/
def D.pl : Nat → D → Bool
  | _, .non => true
  | _, .bl _ => true
  | _, .int _ => true
  | _, .str _ => true
  | n, .lst xs => match n with
    | 0 => false
    | n + 1 => D.plA n xs
  | n, .tup xs => match n with
    | 0 => false
    | n + 1 => D.plA n xs
  | _, .obj _ _ => false
  | _, .scr _ => false
  | _, .clo _ => false
  | _, .exn _ _ => false
  | _, .pv _ => false
  | _, .dck _ _ => false
  | _, .dcp _ _ => false
def D.plA : Nat → List D → Bool
  | _, [] => true
  | n, x :: xs => D.pl n x && D.plA n xs
end
mutual
def D.py : D → PyData
  | .non => .none
  | .bl b => .bool b
  | .int i => .int i
  | .str s => .str (enc s)
  | .lst xs => .list (D.pyA xs)
  | .tup xs => .tuple (D.pyA xs)
  | .obj _ _ => .none
  | .scr _ => .none
  | .clo _ => .none
  | .exn _ _ => .none
  | .pv _ => .none
  | .dck _ _ => .none
  | .dcp _ _ => .none
def D.pyA : List D → List PyData
  | [] => []
  | x :: xs => D.py x :: D.pyA xs
end
mutual
theorem py_eqv : ∀ (n m : Nat) (a b : D), a.pl n = true → b.pl m = true → PyData.eqv a.py b.py = D.eqv a b
  | _, _, .non, b, _, hb => by cases b <;> first | rfl | (simp [D.pl] at hb)
  | _, _, .bl _, b, _, hb => by cases b <;> first | rfl | (simp [D.pl] at hb)
  | _, _, .int _, b, _, hb => by cases b <;> first | rfl | (simp [D.pl] at hb)
  | _, _, .str s, b, _, hb => by
    cases b <;> first | rfl | (simp [D.pl] at hb) | skip
    rename_i t
    show (enc s == enc t) = (s == t)
    rw [Bool.eq_iff_iff, beq_iff_eq, beq_iff_eq]
    exact ⟨enc_inj, fun e => by rw [e]⟩
  | n, m, .lst xs, b, ha, hb => by
    cases b <;> first | rfl | (simp [D.pl] at hb) | skip
    rename_i ys
    cases n with
    | zero => simp [D.pl] at ha
    | succ n =>
      cases m with
      | zero => simp [D.pl] at hb
      | succ m => exact py_eqvA n m xs ys (by simpa [D.pl] using ha) (by simpa [D.pl] using hb)
  | n, m, .tup xs, b, ha, hb => by
    cases b <;> first | rfl | (simp [D.pl] at hb) | skip
    rename_i ys
    cases n with
    | zero => simp [D.pl] at ha
    | succ n =>
      cases m with
      | zero => simp [D.pl] at hb
      | succ m => exact py_eqvA n m xs ys (by simpa [D.pl] using ha) (by simpa [D.pl] using hb)
  | _, _, .obj _ _, _, ha, _ => by simp [D.pl] at ha
  | _, _, .scr _, _, ha, _ => by simp [D.pl] at ha
  | _, _, .clo _, _, ha, _ => by simp [D.pl] at ha
  | _, _, .exn _ _, _, ha, _ => by simp [D.pl] at ha
  | _, _, .pv _, _, ha, _ => by simp [D.pl] at ha
  | _, _, .dck _ _, _, ha, _ => by simp [D.pl] at ha
  | _, _, .dcp _ _, _, ha, _ => by simp [D.pl] at ha
theorem py_eqvA : ∀ (n m : Nat) (a b : List D), D.plA n a = true → D.plA m b = true → PyData.eqvAll (D.pyA a) (D.pyA b) = D.eqvA a b
  | _, _, [], [], _, _ => rfl
  | _, _, [], _ :: _, _, _ => rfl
  | _, _, _ :: _, [], _, _ => rfl
  | n, m, x :: xs, y :: ys, ha, hb => by
    rw [D.plA, Bool.and_eq_true] at ha hb
    simp only [D.pyA, PyData.eqvAll, D.eqvA, py_eqv n m x y ha.1 hb.1, py_eqvA n m xs ys ha.2 hb.2]
end
mutual
theorem py_dp {C : Cf} {B H : Hp} (e : Same B H) : ∀ {n : Nat} {v : V} {d : D}, Rep C B v d → d.pl n = true → Dp C.K H v d.py
  | _, _, _, .non, _ => .non
  | _, _, _, .bl b, _ => .bl b
  | _, _, _, .int i, _ => .int i
  | _, _, _, .str s, _ => .str (enc s)
  | n, _, _, .lst h r, hp => by
    cases n with
    | zero => simp [D.pl] at hp
    | succ n => exact .lst (.inl (.inl (e _ _ h))) (py_dpA e r (n := n) (by simpa [D.pl] using hp))
  | n, _, _, .tup h r, hp => by
    cases n with
    | zero => simp [D.pl] at hp
    | succ n => exact .tup (sqT_sub e h) (py_dpA e r (n := n) (by simpa [D.pl] using hp))
  | _, _, _, .obj _ _ _, hp => by simp [D.pl] at hp
  | _, _, _, .scr _, hp => by simp [D.pl] at hp
  | _, _, _, .clo _ _ _ _, hp => by simp [D.pl] at hp
  | _, _, _, .exn _ _ _ _, hp => by simp [D.pl] at hp
  | _, _, _, .pv, hp => by simp [D.pl] at hp
theorem py_dpA {C : Cf} {B H : Hp} (e : Same B H) : ∀ {n : Nat} {vs : List V} {ds : List D}, RepA C B vs ds → D.plA n ds = true → DpAll C.K H vs (D.pyA ds)
  | _, _, _, .nil, _ => .nil
  | n, _, _, .cons h r, hp => by
    rw [D.plA, Bool.and_eq_true] at hp
    exact .cons (py_dp e h hp.1) (py_dpA e r hp.2)
end
mutual
theorem py_lay : ∀ (n : Nat) (a : D), a.pl n = true → a.py.plain = true ∧ a.py.depth ≤ n
  | _, .non, _ => ⟨rfl, Nat.zero_le _⟩
  | _, .bl _, _ => ⟨rfl, Nat.zero_le _⟩
  | _, .int _, _ => ⟨rfl, Nat.zero_le _⟩
  | _, .str _, _ => ⟨rfl, Nat.zero_le _⟩
  | n, .lst xs, h => by
    cases n with
    | zero => simp [D.pl] at h
    | succ n =>
      have q := py_layA n xs (by simpa [D.pl] using h)
      simp only [D.py, PyData.plain, PyData.depth]
      exact ⟨q.1, Nat.succ_le_succ q.2⟩
  | n, .tup xs, h => by
    cases n with
    | zero => simp [D.pl] at h
    | succ n =>
      have q := py_layA n xs (by simpa [D.pl] using h)
      simp only [D.py, PyData.plain, PyData.depth]
      exact ⟨q.1, Nat.succ_le_succ q.2⟩
  | _, .obj _ _, h => by simp [D.pl] at h
  | _, .scr _, h => by simp [D.pl] at h
  | _, .clo _, h => by simp [D.pl] at h
  | _, .exn _ _, h => by simp [D.pl] at h
  | _, .pv _, h => by simp [D.pl] at h
  | _, .dck _ _, h => by simp [D.pl] at h
  | _, .dcp _ _, h => by simp [D.pl] at h
theorem py_layA : ∀ (n : Nat) (a : List D), D.plA n a = true → PyData.plainAll (D.pyA a) = true ∧ PyData.depthAll (D.pyA a) ≤ n
  | _, [], _ => ⟨rfl, Nat.zero_le _⟩
  | n, x :: xs, h => by
    rw [D.plA, Bool.and_eq_true] at h
    have h1 := py_lay n x h.1
    have h2 := py_layA n xs h.2
    simp only [D.pyA, PyData.plainAll, PyData.depthAll, Bool.and_eq_true]
    exact ⟨⟨h1.1, h2.1⟩, Nat.max_le.mpr ⟨h1.2, h2.2⟩⟩
end
/-- a value as data: a list that may change as it stands -/
def datOf (M : Mem) : VD → Option D
  | .d x => some x
  | .adr i => match M[i]? with
    | some (.lst ds) => some (.lst ds)
    | _ => none
theorem datOf_dp {C : Cf} {W : Wd} {H : Hp} {M : Mem} {x : V} {a : VD} {d : D} {n : Nat} (ok : Ok C W H M) (r : RepV C W x a) (h : datOf M a = some d) (hp : d.pl n = true) : Dp C.K H x d.py := by
  cases a with
  | d y =>
    have e : some y = some d := h
    cases e
    exact py_dp ok.sub r hp
  | adr i =>
    obtain ⟨q, rfl, hq⟩ := r
    have e1 : (match M[i]? with | some (MO.lst ds) => some (D.lst ds) | _ => none) = some d := h
    split at e1
    · rename_i ds e3
      cases e1
      obtain ⟨_, vs, h1, h2⟩ := ok.mo _ q _ hq e3
      cases n with
      | zero => simp [D.pl] at hp
      | succ n => exact .lst (SqL.of h1) (py_dpA ok.sub h2 (n := n) (by simpa [D.pl] using hp))
    · cases e1
section
variable {X : Cx} {C : Cf} {E : XK}
def r_eqP (K : PySem.W.Frag) (neg : Bool) : R2 := fun x y H Q => ∃ d e, Dp K H x d ∧ Dp K H y e ∧ d.plain = true ∧ e.plain = true ∧ d.depth ≤ 60 ∧ Q (.bl (if neg then !PyData.eqv d e else PyData.eqv d e)) H
theorem o_eqP (hu : X.A.units + 64 < cLine) : OpR X (compareOp .Eq) (r_eqP X.K false) := by
  intro pins s σ H x y v u Q I rx ry h
  obtain ⟨d, e, hd, he, sd, se, hl, q⟩ := h
  obtain ⟨as, r1⟩ := Dp.reads I d x v hd rx
  obtain ⟨bs, r2⟩ := Dp.reads I e y u he ry
  have h2 : min d.depth e.depth ≤ d.depth := Nat.min_le_left _ _
  exact SeqAt.eq_plain r1 r2 sd se (by omega) ⟨.bl _, H, I, rfl, q⟩
theorem o_neP (hu : X.A.units + 64 < cLine) : OpR X (compareOp .NotEq) (r_eqP X.K true) := by
  intro pins s σ H x y v u Q I rx ry h
  obtain ⟨d, e, hd, he, sd, se, hl, q⟩ := h
  obtain ⟨as, r1⟩ := Dp.reads I d x v hd rx
  obtain ⟨bs, r2⟩ := Dp.reads I e y u he ry
  have h2 : min d.depth e.depth ≤ d.depth := Nat.min_le_left _ _
  exact SeqAt.ne_plain r1 r2 sd se (by omega) ⟨.bl _, H, I, rfl, q⟩
def f_eqn (neg : Bool) (a b : VD) (M : Mem) : Res VD := match datOf M a, datOf M b with
  | some x, some y => if x.pl 20 && y.pl 20 then .ok (.d (.bl (if neg then !D.eqv x y else D.eqv x y))) M else .fail
  | _, _ => .fail
def f_eq := f_eqn false
def f_ne := f_eqn true
theorem p_eqn (neg : Bool) : OpS C E (r_eqP C.K neg) (f_eqn neg) := fun W H M x y a b Q ok ra rb p => by
  unfold f_eqn at p
  split at p
  · rename_i d e h1 h2
    split at p
    · rename_i h
      rw [Bool.and_eq_true] at h
      have l1 := py_lay 20 d h.1
      have l2 := py_lay 20 e h.2
      refine ⟨d.py, e.py, datOf_dp ok ra h1 h.1, datOf_dp ok rb h2 h.2, l1.1, l2.1, by omega, ?_⟩
      rw [py_eqv 20 20 d e h.1 h.2]
      exact post_ok p ok (.bl _)
    · exact p.elim
  · exact p.elim
def r_inP (K : PySem.W.Frag) (neg : Bool) : R2 := fun x y H Q => ∃ d ds, Dp K H x d ∧ (Dp K H y (.list ds) ∨ Dp K H y (.tuple ds)) ∧ d.plain = true ∧ PyData.plainAll ds = true ∧ d.depth ≤ 60 ∧ Q (.bl (if neg then !ds.any fun z => PyData.eqv z d else ds.any fun z => PyData.eqv z d)) H
theorem o_inP (hu : X.A.units + 64 < cLine) : OpR X (compareOp .In) (r_inP X.K false) := by
  intro pins s σ H x y v u Q I rx ry h
  obtain ⟨d, ds, hd, he, sd, se, hl, q⟩ := h
  obtain ⟨as, r1⟩ := Dp.reads I d x v hd rx
  have h2 : min (PyData.depthAll ds) d.depth ≤ d.depth := Nat.min_le_right _ _
  rcases he with he | he
  · obtain ⟨bs, r2⟩ := Dp.reads I (.list ds) y u he ry
    exact SeqAt.in_list_data r2 r1 se sd (by omega) ⟨.bl _, H, I, rfl, q⟩
  · obtain ⟨bs, r2⟩ := Dp.reads I (.tuple ds) y u he ry
    exact SeqAt.in_tuple_data r2 r1 se sd (by omega) ⟨.bl _, H, I, rfl, q⟩
def r_in (K : PySem.W.Frag) (neg : Bool) : R2 := fun x y H Q => (∃ (c : Nat) (z : Str), x = .str ⟨#[c]⟩ ∧ y = .str z ∧ Q (.bl (if neg then !decide (c ∈ z.cps.toList) else decide (c ∈ z.cps.toList))) H) ∨ r_inP K neg x y H Q
theorem o_in (hu : X.A.units + 64 < cLine) : OpR X (compareOp .In) (r_in X.K false) := OpR.or op_in_sign (o_inP hu)
def f_inn (neg : Bool) : VD → VD → Mem → Res VD
  | .d (.str [c]), .d (.str t), M => .ok (.d (.bl (if neg then !decide (c ∈ t) else decide (c ∈ t)))) M
  | a, b, M => match datOf M a, seqOf M b with
    | some x, some ys => if x.pl 20 && D.plA 19 ys then .ok (.d (.bl (if neg then !ys.any fun z => D.eqv z x else ys.any fun z => D.eqv z x))) M else .fail
    | _, _ => .fail
def f_in := f_inn false
def f_ni := f_inn true
theorem py_any {x : D} (hx : x.pl 20 = true) : ∀ (ys : List D), D.plA 19 ys = true → ((D.pyA ys).any fun z => PyData.eqv z x.py) = ys.any fun z => D.eqv z x
  | [], _ => rfl
  | y :: ys, h => by
    rw [D.plA, Bool.and_eq_true] at h
    simp only [D.pyA, List.any_cons, py_eqv 19 20 y x h.1 hx, py_any hx ys h.2]
theorem seq_dp {W : Wd} {H : Hp} {M : Mem} {x : V} {a : VD} {ds : List D} {n : Nat} (ok : Ok C W H M) (r : RepV C W x a) (h : seqOf M a = some ds) (hp : D.plA n ds = true) : Dp C.K H x (.list (D.pyA ds)) ∨ Dp C.K H x (.tuple (D.pyA ds)) := by
  obtain ⟨p, vs, rfl, hs, hr⟩ := seq_read ok r h
  rcases hs with hs | hs
  · exact .inl (.lst hs (py_dpA ok.sub hr hp))
  · exact .inr (.tup hs (py_dpA ok.sub hr hp))
theorem p_inn (neg : Bool) : OpS C E (r_in C.K neg) (f_inn neg) := fun W H M x y a b Q ok ra rb p => by
  unfold f_inn at p
  split at p
  · rename_i c t
    cases inv_str ra
    cases inv_str rb
    refine .inl ⟨c, enc t, rfl, rfl, ?_⟩
    have e : (enc t).cps.toList = t := by simp [enc]
    rw [e]
    exact post_ok p ok (.bl _)
  · split at p
    · rename_i x' ys h1 h2
      split at p
      · rename_i h
        rw [Bool.and_eq_true] at h
        have l1 := py_lay 20 x' h.1
        have l2 := py_layA 19 ys h.2
        refine .inr ⟨x'.py, D.pyA ys, datOf_dp ok ra h1 h.1, seq_dp ok rb h2 h.2, l1.1, l2.1, by omega, ?_⟩
        rw [py_any h.1 ys h.2]
        exact post_ok p ok (.bl _)
      · exact p.elim
    · exact p.elim
def f_is (neg : Bool) : VD → VD → Mem → Res VD
  | .d x, .d .non, M => .ok (.d (.bl (match x with | .non => !neg | _ => neg))) M
  | .adr _, .d .non, M => .ok (.d (.bl neg)) M
  | _, _, _ => .fail
theorem is_val {W : Wd} {x : V} {d : D} (r : RepV C W x (.d d)) : decide (x = V.non) = (match d with | .non => true | _ => false) := by
  cases (show Rep C W.B x d from r) <;> simp
theorem p_is : OpS C E (fun x y H Q => y = .non ∧ Q (.bl (decide (x = .non))) H) (f_is false) := fun W H M x y a b Q ok ra rb p => by
  unfold f_is at p
  split at p
  · rename_i d
    cases inv_non rb
    refine ⟨rfl, ?_⟩
    rw [is_val ra]
    cases d <;> exact post_ok p ok (.bl _)
  · cases inv_non rb
    obtain ⟨q, rfl, _⟩ := ra
    refine ⟨rfl, ?_⟩
    simp
    exact post_ok p ok (.bl _)
  · exact p.elim
theorem p_isnot : OpS C E (fun x y H Q => y = .non ∧ Q (.bl (!decide (x = .non))) H) (f_is true) := fun W H M x y a b Q ok ra rb p => by
  unfold f_is at p
  split at p
  · rename_i d
    cases inv_non rb
    refine ⟨rfl, ?_⟩
    rw [is_val ra]
    cases d <;> exact post_ok p ok (.bl _)
  · cases inv_non rb
    obtain ⟨q, rfl, _⟩ := ra
    refine ⟨rfl, ?_⟩
    simp
    exact post_ok p ok (.bl _)
  · exact p.elim
end
end G
namespace G
open PySem PySem.Spec PyProof.Rows L2
/-- where a text stands -/
structure Cxx (X : Cx) (C : Cf) (E : XK) (CX : CXT) (k : Nat) : Prop where
  K : C.K = X.K
  calm : X.calm = true
  nd : X.N.Nodup
  own : PassesOwn (model X.prog X.w) X.A X.env X.xe
  pas : Passes CX X E
  pas0 : ∀ Y : Cx, Y.prog = X.prog → Y.w = X.w → Passes CX Y E0
  hr : Room k X.A
  tk : Takes X (fun cls d _ H => E cls d H)
section
variable {X : Cx} {C : Cf} {E : XK} {CX : CXT} {k : Nat}
theorem Cxx.hu (c : Cxx X C E CX k) : X.A.units + 64 < cLine := c.hr.units
theorem x_le {a b : Expr} {ma mb : Mx VD} {pos : Pos} (ha : PX X C E a ma) (hb : PX X C E b mb) : PX X C E (.Compare a [.LtE] [b] pos) (e_op f_le ma mb) := x_cmp o_le p_cmp ha hb
theorem x_eq {a b : Expr} {ma mb : Mx VD} {pos : Pos} (c : Cxx X C E CX k) (ha : PX X C E a ma) (hb : PX X C E b mb) : PX X C E (.Compare a [.Eq] [b] pos) (e_op f_eq ma mb) := x_cmp (by rw [c.K]; exact o_eqP c.hu) (p_eqn false) ha hb
theorem x_in {a b : Expr} {ma mb : Mx VD} {pos : Pos} (c : Cxx X C E CX k) (ha : PX X C E a ma) (hb : PX X C E b mb) (hm : behindInMarks .In b = false := by with_unfolding_all rfl) : PX X C E (.Compare a [.In] [b] pos) (e_op f_in ma mb) := x_cmp (by rw [c.K]; exact o_in c.hu) (p_inn false) ha hb hm
theorem x_is {a b : Expr} {ma mb : Mx VD} {pos : Pos} (ha : PX X C E a ma) (hb : PX X C E b mb) : PX X C E (.Compare a [.Is] [b] pos) (e_op (f_is false) ma mb) := x_cmp op_isN p_is ha hb
def truth (M : Mem) : VD → Option Bool
  | .d .non => some false
  | .d (.bl b) => some b
  | .d (.int i) => some (i != 0)
  | .d (.str s) => if s.length ≤ lim then some (!s.isEmpty) else none
  | .d (.obj _ _) => none
  | a => (seqOf M a).map fun ds => !ds.isEmpty
theorem truth_ok {W : Wd} {H : Hp} {M : Mem} {x : V} {a : VD} {b : Bool} (ok : Ok C W H M) (r : RepV C W x a) (h : truth M a = some b) : TruV C.K x H b := by
  unfold truth at h
  have sq : ∀ {z}, seqOf M z = seqOf M a → (seqOf M z).map (fun ds => !ds.isEmpty) = some b → TruV C.K x H b := fun {z} e h => by
    rw [e] at h
    cases q : seqOf M a with
    | none =>
      rw [q] at h
      cases h
    | some ds =>
      rw [q] at h
      have h : (!ds.isEmpty) = b := Option.some.inj h
      obtain ⟨p, vs, rfl, hs, hr⟩ := seq_read ok r q
      have e : (!ds.isEmpty) = !vs.isEmpty := by
        cases hr <;> rfl
      rcases hs with hs | hs
      · exact .inl ⟨vs, hs, h.symm.trans e⟩
      · exact .inr (.inl ⟨vs, hs, h.symm.trans e⟩)
  split at h
  · cases inv_non r
    exact (Option.some.inj h).symm
  · cases inv_bl r
    exact (Option.some.inj h).symm
  · cases inv_int r
    exact (Option.some.inj h).symm
  · rename_i s
    split at h
    · rename_i hl
      cases inv_str r
      refine ⟨by rw [enc_len]; exact lim_le hl, ?_⟩
      rw [← Option.some.inj h, enc_len]
      cases s <;> rfl
    · cases h
  · cases h
  · exact sq rfl h
def e_truth (m : Mx VD) : Mx Bool := fun ρ M => (m ρ M).bind fun v M1 => match truth M1 v with
  | some b => .ok b M1
  | none => .fail
theorem sem_truth {ta : TE} {ma : Mx VD} (ha : Sem C E ta ma) : SemT C E (fun σ H Q => ta σ H fun x H' => ∃ k, TruV C.K x H' k ∧ Q k H') (e_truth ma) := fun W σ H ρ M Q ok sl p => by
  refine ha W σ H ρ M _ ok sl (post_bind p fun a M1 W1 H1 x l1 ok1 ra p1 => ?_)
  split at p1
  · rename_i b h
    exact ⟨b, truth_ok ok1 ra h, post_ok p1 ok1 rfl⟩
  · exact p1.elim
theorem t_truth {a : Expr} {ma : Mx VD} (hK : C.K = X.K) (ha : PX X C E a ma) (he : ∀ whole, isTrue a X.env whole = (do let v ← whole; standAt a.pos; holding [v] (truthy v)) := by intro _; rfl) : PXT X C E a (e_truth ma) := by
  obtain ⟨ta, pa, sa⟩ := ha
  have q := sem_truth sa
  rw [hK] at q
  exact ⟨_, pt_truth pa he, q⟩
def asB (v : VD) (M : Mem) : Res Bool := match v with
  | .d (.bl b) => .ok b M
  | _ => .fail
def e_asB (m : Mx VD) : Mx Bool := fun ρ M => (m ρ M).bind asB
theorem sem_test {ta : TE} {ma : Mx VD} (ha : Sem C E ta ma) : SemT C E (tTest ta) (e_asB ma) := fun W σ H ρ M Q ok sl p => by
  refine ha W σ H ρ M _ ok sl (post_bind p fun a M1 W1 H1 x l1 ok1 ra p1 => ?_)
  unfold asB at p1
  split at p1
  · cases inv_bl ra
    exact ⟨_, rfl, post_ok p1 ok1 rfl⟩
  · exact p1.elim
theorem t_cmp {op : CmpOp} {r : R2} {f} {a b : Expr} {ma mb : Mx VD} {pos : Pos} (ho : OpR X (compareOp op) r) (hr : OpS C E r f) (ha : PX X C E a ma) (hb : PX X C E b mb) (hm : behindInMarks op b = false := by first | rfl | exact nomark _) : PXT X C E (.Compare a [op] [b] pos) (e_asB (e_op f ma mb)) := by
  obtain ⟨ta, pa, sa⟩ := ha
  obtain ⟨tb, pb, sb⟩ := hb
  exact ⟨_, pt_cmpR ho pa pb hm, sem_test (sem_op hr sa sb)⟩
theorem t_lt {a b : Expr} {ma mb : Mx VD} {pos : Pos} (ha : PX X C E a ma) (hb : PX X C E b mb) : PXT X C E (.Compare a [.Lt] [b] pos) (e_asB (e_op f_lt ma mb)) := t_cmp o_lt p_cmp ha hb
theorem t_gt {a b : Expr} {ma mb : Mx VD} {pos : Pos} (ha : PX X C E a ma) (hb : PX X C E b mb) : PXT X C E (.Compare a [.Gt] [b] pos) (e_asB (e_op f_gt ma mb)) := t_cmp o_gt p_cmp ha hb
theorem t_ge {a b : Expr} {ma mb : Mx VD} {pos : Pos} (ha : PX X C E a ma) (hb : PX X C E b mb) : PXT X C E (.Compare a [.GtE] [b] pos) (e_asB (e_op f_ge ma mb)) := t_cmp o_ge p_cmp ha hb
theorem t_eq {a b : Expr} {ma mb : Mx VD} {pos : Pos} (c : Cxx X C E CX k) (ha : PX X C E a ma) (hb : PX X C E b mb) : PXT X C E (.Compare a [.Eq] [b] pos) (e_asB (e_op f_eq ma mb)) := t_cmp (by rw [c.K]; exact o_eqP c.hu) (p_eqn false) ha hb
theorem t_ne {a b : Expr} {ma mb : Mx VD} {pos : Pos} (c : Cxx X C E CX k) (ha : PX X C E a ma) (hb : PX X C E b mb) : PXT X C E (.Compare a [.NotEq] [b] pos) (e_asB (e_op f_ne ma mb)) := t_cmp (by rw [c.K]; exact o_neP c.hu) (p_eqn true) ha hb
theorem t_in {a b : Expr} {ma mb : Mx VD} {pos : Pos} (c : Cxx X C E CX k) (ha : PX X C E a ma) (hb : PX X C E b mb) (hm : behindInMarks .In b = false := by with_unfolding_all rfl) : PXT X C E (.Compare a [.In] [b] pos) (e_asB (e_op f_in ma mb)) := t_cmp (by rw [c.K]; exact o_in c.hu) (p_inn false) ha hb hm
theorem t_is {a b : Expr} {ma mb : Mx VD} {pos : Pos} (ha : PX X C E a ma) (hb : PX X C E b mb) : PXT X C E (.Compare a [.Is] [b] pos) (e_asB (e_op (f_is false) ma mb)) := t_cmp op_isN p_is ha hb
theorem t_isnot {a b : Expr} {ma mb : Mx VD} {pos : Pos} (ha : PX X C E a ma) (hb : PX X C E b mb) : PXT X C E (.Compare a [.IsNot] [b] pos) (e_asB (e_op (f_is true) ma mb)) := t_cmp op_notN p_isnot ha hb
def e_chain (f g : VD → VD → Mem → Res VD) (a b c : Mx VD) : Mx VD := fun ρ M => (a ρ M).bind fun x M1 => (b ρ M1).bind fun y M2 => (f x y M2).bind fun z M3 => (asB z M3).bind fun q M4 => if q then (c ρ M4).bind fun w M5 => g y w M5 else .ok (.d (.bl false)) M4
theorem sem_chain {r r' : R2} {ta tb tc : TE} {f g} {ma mb mc : Mx VD} (hr : OpS C E r f) (hr' : OpS C E r' g) (ha : Sem C E ta ma) (hb : Sem C E tb mb) (hc : Sem C E tc mc) : Sem C E (tChain r r' ta tb tc) (e_chain f g ma mb mc) := fun W σ H ρ M Q ok sl p => by
  refine ha W σ H ρ M _ ok sl (post_bind p fun a M1 W1 H1 x l1 ok1 ra p1 => ?_)
  refine hb W1 σ H1 ρ M1 _ ok1 (sl.mono l1.le) (post_bind p1 fun b M2 W2 H2 y l2 ok2 rb p2 => ?_)
  refine hr W2 H2 M2 x y a b _ ok2 (ra.mono l2.le) rb (post_bind p2 fun z M3 W3 H3 v l3 ok3 rz p3 => ?_)
  unfold asB at p3
  split at p3
  · rename_i q
    cases inv_bl rz
    refine ⟨q, rfl, ?_⟩
    cases q with
    | true => exact hc W3 σ H3 ρ M3 _ ok3 (((sl.mono l1.le).mono l2.le).mono l3.le) (post_bind p3 fun w M5 W5 H5 u l5 ok5 rw p5 => hr' W5 H5 M5 y u b w Q ok5 ((rb.mono l3.le).mono l5.le) rw p5)
    | false => exact post_ok p3 ok3 (.bl false)
  · exact p3.elim
theorem x_chain {op op' : CmpOp} {r r' : R2} {f g} {a b d : Expr} {ma mb mc : Mx VD} {pos : Pos} (ho : OpR X (compareOp op) r) (ho' : OpR X (compareOp op') r') (hr : OpS C E r f) (hr' : OpS C E r' g) (ha : PX X C E a ma) (hb : PX X C E b mb) (hc : PX X C E d mc) (hm : lastMarks [op, op'] [b, d] = false := by with_unfolding_all rfl) :
    PX X C E (.Compare a [op, op'] [b, d] pos) (e_chain f g ma mb mc) := by
  obtain ⟨ta, pa, sa⟩ := ha
  obtain ⟨tb, pb, sb⟩ := hb
  obtain ⟨tc, pc, sc⟩ := hc
  exact ⟨_, pe_chain ho ho' pa pb pc hm, sem_chain hr hr' sa sb sc⟩
theorem t_chain {op op' : CmpOp} {r r' : R2} {f g} {a b d : Expr} {ma mb mc : Mx VD} {pos : Pos} (ho : OpR X (compareOp op) r) (ho' : OpR X (compareOp op') r') (hr : OpS C E r f) (hr' : OpS C E r' g) (ha : PX X C E a ma) (hb : PX X C E b mb) (hc : PX X C E d mc) (hm : lastMarks [op, op'] [b, d] = false := by with_unfolding_all rfl) :
    PXT X C E (.Compare a [op, op'] [b, d] pos) (e_asB (e_chain f g ma mb mc)) := by
  obtain ⟨ta, pa, sa⟩ := ha
  obtain ⟨tb, pb, sb⟩ := hb
  obtain ⟨tc, pc, sc⟩ := hc
  exact ⟨_, pt_chain ho ho' pa pb pc hm, sem_test (sem_chain hr hr' sa sb sc)⟩
def e_andT (a b : Mx Bool) : Mx Bool := fun ρ M => (a ρ M).bind fun c M1 => if c then b ρ M1 else .ok false M1
def e_orT (a b : Mx Bool) : Mx Bool := fun ρ M => (a ρ M).bind fun c M1 => if c then .ok true M1 else b ρ M1
def e_notT (a : Mx Bool) : Mx Bool := fun ρ M => (a ρ M).bind fun c M1 => .ok (!c) M1
theorem sem_andT {ta tb : TT} {ma mb : Mx Bool} (ha : SemT C E ta ma) (hb : SemT C E tb mb) : SemT C E (tAnd ta tb) (e_andT ma mb) := fun W σ H ρ M Q ok sl p => by
  refine ha W σ H ρ M _ ok sl (post_bind p fun c M1 W1 H1 x l1 ok1 ra p1 => ?_)
  cases (show x = c from ra)
  cases c with
  | true => exact hb W1 σ H1 ρ M1 Q ok1 (sl.mono l1.le) p1
  | false => exact post_ok p1 ok1 rfl
theorem sem_orT {ta tb : TT} {ma mb : Mx Bool} (ha : SemT C E ta ma) (hb : SemT C E tb mb) : SemT C E (tOr ta tb) (e_orT ma mb) := fun W σ H ρ M Q ok sl p => by
  refine ha W σ H ρ M _ ok sl (post_bind p fun c M1 W1 H1 x l1 ok1 ra p1 => ?_)
  cases (show x = c from ra)
  cases c with
  | true => exact post_ok p1 ok1 rfl
  | false => exact hb W1 σ H1 ρ M1 Q ok1 (sl.mono l1.le) p1
theorem sem_notT {ta : TT} {ma : Mx Bool} (ha : SemT C E ta ma) : SemT C E (tNot ta) (e_notT ma) := fun W σ H ρ M Q ok sl p => by
  refine ha W σ H ρ M _ ok sl (post_bind p fun c M1 W1 H1 x l1 ok1 ra p1 => ?_)
  cases (show x = c from ra)
  exact post_ok p1 ok1 rfl
theorem w_and1 {a : Expr} {ma : Mx Bool} {pos : Pos} (ha : PXT X C E a ma) : PXW X C E (.BoolOp .And [a] pos) ma := by
  obtain ⟨ta, pa, sa⟩ := ha
  exact ⟨_, pw_and1 pa, sa⟩
theorem w_or1 {a : Expr} {ma : Mx Bool} {pos : Pos} (ha : PXT X C E a ma) : PXW X C E (.BoolOp .Or [a] pos) ma := by
  obtain ⟨ta, pa, sa⟩ := ha
  exact ⟨_, pw_or1 pa, sa⟩
theorem w_and {a b : Expr} {rest : List Expr} {ma mb : Mx Bool} {pos : Pos} (ha : PXT X C E a ma) (hb : PXW X C E (.BoolOp .And (b :: rest) pos) mb) : PXW X C E (.BoolOp .And (a :: b :: rest) pos) (e_andT ma mb) := by
  obtain ⟨ta, pa, sa⟩ := ha
  obtain ⟨tb, pb, sb⟩ := hb
  exact ⟨_, pw_and pa pb, sem_andT sa sb⟩
theorem w_or {a b : Expr} {rest : List Expr} {ma mb : Mx Bool} {pos : Pos} (ha : PXT X C E a ma) (hb : PXW X C E (.BoolOp .Or (b :: rest) pos) mb) : PXW X C E (.BoolOp .Or (a :: b :: rest) pos) (e_orT ma mb) := by
  obtain ⟨ta, pa, sa⟩ := ha
  obtain ⟨tb, pb, sb⟩ := hb
  exact ⟨_, pw_or pa pb, sem_orT sa sb⟩
theorem t_w {a : Expr} {ma : Mx Bool} (ha : PXW X C E a ma) : PXT X C E a ma := by
  obtain ⟨ta, pa, sa⟩ := ha
  exact ⟨_, pa.pt, sa⟩
theorem t_not {a : Expr} {ma : Mx Bool} {pos : Pos} (ha : PXT X C E a ma) : PXT X C E (.UnaryOp .Not a pos) (e_notT ma) := by
  obtain ⟨ta, pa, sa⟩ := ha
  exact ⟨_, pt_not pa, sem_notT sa⟩
def e_and (a b : Mx VD) : Mx VD := fun ρ M => (a ρ M).bind fun v M1 => (asB v M1).bind fun c M2 => if c then b ρ M2 else .ok (.d (.bl false)) M2
def e_or (a b : Mx VD) : Mx VD := fun ρ M => (a ρ M).bind fun v M1 => (asB v M1).bind fun c M2 => if c then .ok (.d (.bl true)) M2 else b ρ M2
def e_not (a : Mx VD) : Mx VD := fun ρ M => (a ρ M).bind fun v M1 => (asB v M1).bind fun c M2 => .ok (.d (.bl (!c))) M2
theorem x_one {op} {a : Expr} {ma : Mx VD} {pos : Pos} (ha : PX X C E a ma) : PX X C E (.BoolOp op [a] pos) ma := by
  obtain ⟨ta, pa, sa⟩ := ha
  exact ⟨_, pe_one pa, sa⟩
theorem x_and {a b : Expr} {rest : List Expr} {ma mb : Mx VD} {pos : Pos} (ha : PX X C E a ma) (hb : PX X C E (.BoolOp .And (b :: rest) pos) mb) : PX X C E (.BoolOp .And (a :: b :: rest) pos) (e_and ma mb) := by
  obtain ⟨ta, pa, sa⟩ := ha
  obtain ⟨tb, pb, sb⟩ := hb
  refine ⟨_, pe_and pa pb, fun W σ H ρ M Q ok sl p => ?_⟩
  refine sa W σ H ρ M _ ok sl (post_bind p fun c M1 W1 H1 x l1 ok1 ra p1 => ?_)
  unfold asB at p1
  split at p1
  · rename_i q
    cases inv_bl ra
    refine ⟨q, rfl, ?_⟩
    cases q with
    | true => exact sb W1 σ H1 ρ M1 Q ok1 (sl.mono l1.le) p1
    | false => exact post_ok p1 ok1 (.bl false)
  · exact p1.elim
theorem x_or {a b : Expr} {rest : List Expr} {ma mb : Mx VD} {pos : Pos} (ha : PX X C E a ma) (hb : PX X C E (.BoolOp .Or (b :: rest) pos) mb) : PX X C E (.BoolOp .Or (a :: b :: rest) pos) (e_or ma mb) := by
  obtain ⟨ta, pa, sa⟩ := ha
  obtain ⟨tb, pb, sb⟩ := hb
  refine ⟨_, pe_or pa pb, fun W σ H ρ M Q ok sl p => ?_⟩
  refine sa W σ H ρ M _ ok sl (post_bind p fun c M1 W1 H1 x l1 ok1 ra p1 => ?_)
  unfold asB at p1
  split at p1
  · rename_i q
    cases inv_bl ra
    refine ⟨q, rfl, ?_⟩
    cases q with
    | true => exact post_ok p1 ok1 (.bl true)
    | false => exact sb W1 σ H1 ρ M1 Q ok1 (sl.mono l1.le) p1
  · exact p1.elim
theorem x_not {a : Expr} {ma : Mx VD} {pos : Pos} (ha : PX X C E a ma) : PX X C E (.UnaryOp .Not a pos) (e_not ma) := by
  obtain ⟨ta, pa, sa⟩ := ha
  refine ⟨_, pe_not pa, fun W σ H ρ M Q ok sl p => ?_⟩
  refine sa W σ H ρ M _ ok sl (post_bind p fun c M1 W1 H1 x l1 ok1 ra p1 => ?_)
  unfold asB at p1
  split at p1
  · rename_i q
    cases inv_bl ra
    exact ⟨q, rfl, post_ok p1 ok1 (.bl _)⟩
  · exact p1.elim
def e_if (t : Mx Bool) (a b : Mx VD) : Mx VD := fun ρ M => (t ρ M).bind fun c M1 => if c then a ρ M1 else b ρ M1
theorem x_if {t a b : Expr} {mt : Mx Bool} {ma mb : Mx VD} {pos : Pos} (ht : PXT X C E t mt) (ha : PX X C E a ma) (hb : PX X C E b mb) : PX X C E (.IfExp t a b pos) (e_if mt ma mb) := by
  obtain ⟨tt, pt, st⟩ := ht
  obtain ⟨ta, pa, sa⟩ := ha
  obtain ⟨tb, pb, sb⟩ := hb
  refine ⟨_, pe_ifExp pt pa pb, fun W σ H ρ M Q ok sl p => ?_⟩
  refine st W σ H ρ M _ ok sl (post_bind p fun c M1 W1 H1 x l1 ok1 ra p1 => ?_)
  cases (show x = c from ra)
  cases c with
  | true => exact sa W1 σ H1 ρ M1 Q ok1 (sl.mono l1.le) p1
  | false => exact sb W1 σ H1 ρ M1 Q ok1 (sl.mono l1.le) p1
theorem x_neg {a : Expr} {i : Int} {j} {p1 pos : Pos} : PX X C E (.UnaryOp .USub (.Constant (.int i) j p1) pos) (e_c (.int (-i))) := ⟨_, pe_un un_neg pe_int, fun W σ H ρ M Q ok sl p => ⟨i, rfl, post_ok p ok (.int _)⟩⟩
def a_nil : Mx (List VD) := fun _ M => .ok [] M
def a_cons (a : Mx VD) (r : Mx (List VD)) : Mx (List VD) := fun ρ M => (a ρ M).bind fun v M1 => (r ρ M1).bind fun vs M2 => .ok (v :: vs) M2
theorem xa_nil : PXA X C E [] a_nil := ⟨_, pa_nil, fun W σ H ρ M Q ok sl p => post_ok p ok .nil⟩
theorem xa_cons {e : Expr} {es : List Expr} {m : Mx VD} {ms : Mx (List VD)} (ha : PX X C E e m) (hr : PXA X C E es ms) (hs : starEach (e :: es) X.env = (false, eval e X.env) :: starEach es X.env := by rfl) : PXA X C E (e :: es) (a_cons m ms) := by
  obtain ⟨ta, pa, sa⟩ := ha
  obtain ⟨tb, pb, sb⟩ := hr
  refine ⟨_, pa_cons pa pb hs, fun W σ H ρ M Q ok sl p => ?_⟩
  refine sa W σ H ρ M _ ok sl (post_bind p fun a M1 W1 H1 x l1 ok1 ra p1 => ?_)
  refine sb W1 σ H1 ρ M1 _ ok1 (sl.mono l1.le) (post_bind p1 fun b M2 W2 H2 y l2 ok2 rb p2 => ?_)
  exact post_ok p2 ok2 (.cons (ra.mono l2.le) rb)
def mkL (vs : List VD) (M : Mem) : Res VD := match dats vs with
  | some ds => if ds.length ≤ lim then .ok (.d (.lst ds)) M else .fail
  | none => .fail
def mkT (vs : List VD) (M : Mem) : Res VD := match dats vs with
  | some ds => if ds.length ≤ lim then .ok (.d (.tup ds)) M else .fail
  | none => .fail
def e_lst (ms : Mx (List VD)) : Mx VD := fun ρ M => (ms ρ M).bind mkL
def e_tup (ms : Mx (List VD)) : Mx VD := fun ρ M => (ms ρ M).bind mkT
theorem x_lst {es : List Expr} {ms : Mx (List VD)} {pos : Pos} (h : PXA X C E es ms) : PX X C E (.List es pos) (e_lst ms) := by
  obtain ⟨ta, pa, sa⟩ := h
  refine ⟨_, pe_lst pa, fun W σ H ρ M Q ok sl p => ?_⟩
  refine sa W σ H ρ M _ ok sl (post_bind p fun a M1 W1 H1 x l1 ok1 ra p1 => ?_)
  unfold mkL at p1
  split at p1
  · rename_i ds e
    split at p1
    · rename_i hl
      have r := ra.dat e
      exact ⟨by rw [r.length]; exact lim_le hl, post_lst p1 ok1 r⟩
    · exact p1.elim
  · exact p1.elim
theorem x_tup {es : List Expr} {ms : Mx (List VD)} {x1} {pos : Pos} (h : PXA X C E es ms) : PX X C E (.Tuple es x1 pos) (e_tup ms) := by
  obtain ⟨ta, pa, sa⟩ := h
  refine ⟨_, pe_tup pa, fun W σ H ρ M Q ok sl p => ?_⟩
  refine sa W σ H ρ M _ ok sl (post_bind p fun a M1 W1 H1 x l1 ok1 ra p1 => ?_)
  unfold mkT at p1
  split at p1
  · rename_i ds e
    split at p1
    · rename_i hl
      have r := ra.dat e
      exact ⟨by rw [r.length]; exact lim_le hl, post_tup p1 ok1 r⟩
    · exact p1.elim
  · exact p1.elim
/-- a display that will change -/
def e_lstO (ms : Mx (List VD)) : Mx VD := fun ρ M => (ms ρ M).bind fun vs M1 => match dats vs with
  | some ds => if ds.length ≤ lim then .ok (.adr M1.length) (M1 ++ [.lst ds]) else .fail
  | none => .fail
theorem post_lstO {W : Wd} {H : Hp} {M : Mem} {Q : VK} {vs : List V} {ds : List D} (p : post C (relV C) E Q W H (.ok (.adr M.length) (M ++ [.lst ds]))) (ok : Ok C W H M) (r : RepA C W.B vs ds) : ∀ q, H q = none → Q (.ref q) (upd H q (.lst vs)) := fun q hq => by
  obtain ⟨ok', l⟩ := ok.newM (o := .lst vs) (m := .lst ds) hq ⟨ok.notB hq, vs, upd_same, r⟩
  exact p _ _ _ (Step.newM ok hq) ok' ⟨q, rfl, by rw [← ok.len]; simp⟩
theorem x_lstO {es : List Expr} {ms : Mx (List VD)} {pos : Pos} (h : PXA X C E es ms) : PX X C E (.List es pos) (e_lstO ms) := by
  obtain ⟨ta, pa, sa⟩ := h
  refine ⟨_, pe_lst pa, fun W σ H ρ M Q ok sl p => ?_⟩
  refine sa W σ H ρ M _ ok sl (post_bind p fun a M1 W1 H1 x l1 ok1 ra p1 => ?_)
  split at p1
  · rename_i ds e
    split at p1
    · rename_i hl
      have r := ra.dat e
      exact ⟨by rw [r.length]; exact lim_le hl, post_lstO p1 ok1 r⟩
    · exact p1.elim
  · exact p1.elim
theorem atI_get {α : Type} {xs : List α} {i : Int} {x : α} (h : atI xs i = some x) : ∃ j : Nat, ixN xs.length i = some j ∧ xs[j]? = some x := by
  unfold atI at h
  cases q : ixN xs.length i with
  | none =>
    rw [q] at h
    cases h
  | some j =>
    rw [q] at h
    exact ⟨j, rfl, h⟩
theorem RepA.atI {B : Hp} {vs : List V} {ds : List D} {i : Int} {d : D} (r : RepA C B vs ds) (h : L2.atI ds i = some d) : ∃ v, L2.atI vs i = some v ∧ Rep C B v d := by
  obtain ⟨j, h1, h2⟩ := atI_get h
  obtain ⟨v, h3, h4⟩ := r.get h2
  refine ⟨v, ?_, h4⟩
  unfold L2.atI
  rw [r.length, h1]
  exact h3
def f_ix : VD → VD → Mem → Res VD
  | .d (.str s), .d (.int i), M => if s.length ≤ lim then match L2.atI s i with
    | some c => .ok (.d (.str [c])) M
    | none => .fail else .fail
  | a, .d (.int i), M => match seqOf M a with
    | some ds => match L2.atI ds i with
      | some d => .ok (.d d) M
      | none => .fail
    | none => .fail
  | _, _, _ => .fail
theorem p_ix : OpS C E (rIx C.K) f_ix := fun W H M x y a b Q ok ra rb p => by
  unfold f_ix at p
  split at p
  · rename_i s i
    split at p
    · rename_i hl
      split at p
      · rename_i c e
        cases inv_str ra
        cases inv_int rb
        have e1 : (enc s).cps.toList = s := by simp [enc]
        refine .inr (.inr ⟨enc s, i, c, rfl, rfl, by rw [enc_len]; exact lim_le hl, by rw [e1]; exact e, ?_⟩)
        exact post_ok p ok (Rep.str [c])
      · exact p.elim
    · exact p.elim
  · rename_i i
    split at p
    · rename_i ds e
      split at p
      · rename_i d e2
        cases inv_int rb
        obtain ⟨q, vs, rfl, hs, hr⟩ := seq_read ok ra e
        obtain ⟨v, h1, h2⟩ := hr.atI e2
        rcases hs with hs | hs
        · exact .inl ⟨_, _, _, _, rfl, rfl, hs, h1, post_ok p ok h2⟩
        · exact .inr (.inl ⟨_, _, _, _, rfl, rfl, hs, h1, post_ok p ok h2⟩)
      · exact p.elim
    · exact p.elim
  · exact p.elim
theorem x_ix {a b : Expr} {ma mb : Mx VD} {pos : Pos} (hK : C.K = X.K) (ha : PX X C E a ma) (hb : PX X C E b mb) (hp : PlainIx b := by exact fun _ _ => rfl) : PX X C E (.Subscript a b pos) (e_op f_ix ma mb) := by
  obtain ⟨ta, pa, sa⟩ := ha
  obtain ⟨tb, pb, sb⟩ := hb
  have q := sem_op (E := E) p_ix sa sb
  rw [hK] at q
  exact ⟨_, pe_ix ix_seq pa pb hp, q⟩
def SemO (C : Cf) (E : XK) (to : TO) (m : Mx (Option Int)) : Prop := ∀ W σ H ρ M Q, Ok C W H M → Slots C W σ ρ → post C (fun _ x y => x = y) E Q W H (m ρ M) → to σ H Q
structure PXO (X : Cx) (C : Cf) (E : XK) (e : Option Expr) (m : Mx (Option Int)) : Prop where
  ex : ∃ to, PO X e to ∧ SemO C E to m
def o_none : Mx (Option Int) := fun _ M => .ok none M
def o_some (a : Mx VD) : Mx (Option Int) := fun ρ M => (a ρ M).bind fun v M1 => match v with
  | .d (.int i) => .ok (some i) M1
  | _ => .fail
theorem xo_none : PXO X C E none o_none := ⟨_, po_none, fun W σ H ρ M Q ok sl p => post_ok p ok rfl⟩
theorem xo_some {e : Expr} {m : Mx VD} (h : PX X C E e m) : PXO X C E (some e) (o_some m) := by
  obtain ⟨ta, pa, sa⟩ := h
  refine ⟨_, po_some pa, fun W σ H ρ M Q ok sl p => ?_⟩
  refine sa W σ H ρ M _ ok sl (post_bind p fun a M1 W1 H1 x l1 ok1 ra p1 => ?_)
  split at p1
  · cases inv_int ra
    exact ⟨_, rfl, post_ok p1 ok1 rfl⟩
  · exact p1.elim
def cut {α : Type} (xs : List α) (lo hi : Option Int) : List α := (xs.drop (HT.sIx xs.length 0 lo)).take (HT.sIx xs.length xs.length hi - HT.sIx xs.length 0 lo)
def f_sl (a : VD) (lo hi : Option Int) (M : Mem) : Res VD := match a with
  | .d (.str s) => if s.length ≤ lim then .ok (.d (.str (cut s lo hi))) M else .fail
  | .d (.tup ds) => .ok (.d (.tup (cut ds lo hi))) M
  | a => match lsqOf M a with
    | some ds => .ok (.d (.lst (cut ds lo hi))) M
    | none => .fail
def e_sl (a : Mx VD) (lo hi : Mx (Option Int)) : Mx VD := fun ρ M => (a ρ M).bind fun x M1 => (lo ρ M1).bind fun l M2 => (hi ρ M2).bind fun h M3 => f_sl x l h M3
theorem x_sl {e : Expr} {lo hi : Option Expr} {m : Mx VD} {ml mh : Mx (Option Int)} {p2 pos : Pos} (hK : C.K = X.K) (ha : PX X C E e m) (hl : PXO X C E lo ml) (hh : PXO X C E hi mh) : PX X C E (.Subscript e (.Slice lo hi none p2) pos) (e_sl m ml mh) := by
  obtain ⟨ta, pa, sa⟩ := ha
  obtain ⟨tl, pl, sl'⟩ := hl
  obtain ⟨th, ph, sh⟩ := hh
  refine ⟨_, pe_slice (SlR.or sl_list (SlR.or sl_str sl_tupA)) pa pl ph, fun W σ H ρ M Q ok sl p => ?_⟩
  refine sa W σ H ρ M _ ok sl (post_bind p fun a M1 W1 H1 x l1 ok1 ra p1 => ?_)
  refine sl' W1 σ H1 ρ M1 _ ok1 (sl.mono l1.le) (post_bind p1 fun l M2 W2 H2 y l2 ok2 rl p2 => ?_)
  cases rl
  refine sh W2 σ H2 ρ M2 _ ok2 ((sl.mono l1.le).mono l2.le) (post_bind p2 fun h M3 W3 H3 z l3 ok3 rh p3 => ?_)
  cases rh
  have ra := (ra.mono l2.le).mono l3.le
  unfold f_sl at p3
  split at p3
  · rename_i s _
    split at p3
    · rename_i hl
      cases inv_str ra
      refine .inr (.inl ⟨enc s, rfl, by rw [enc_len]; exact lim_le hl, ?_⟩)
      have e1 : cutS (enc s) l h = enc (cut s l h) := by
        unfold cutS cut enc
        simp [Str.length]
      rw [e1]
      exact post_ok p3 ok3 (Rep.str _)
    · exact p3.elim
  · rename_i ds _
    cases (show Rep C W3.B x (.tup ds) from ra) with
    | tup h1 h2 =>
      refine .inr (.inr ⟨_, _, rfl, by rw [← hK]; exact sqT_sub ok3.sub h1, fun e => ?_, fun _ => ?_⟩)
      · rw [h2.length] at e
        have e2 : cut ds l h = ds := by
          unfold cut
          rw [e.1, e.2]
          simp
        rw [e2] at p3
        exact post_ok p3 ok3 (Rep.tup h1 h2)
      · unfold cutV
        rw [h2.length]
        exact post_tup p3 ok3 ((h2.drop _).take _)
  · split at p3
    · rename_i ds e
      obtain ⟨q, vs, rfl, hs, hr⟩ := lsq_read ok3 ra e
      refine .inl ⟨_, _, rfl, by rw [← hK]; exact hs, ?_⟩
      unfold cutV
      rw [hr.length]
      exact post_lst p3 ok3 ((hr.drop _).take _)
    · exact p3.elim
end
end G
namespace G
open PySem PySem.Spec PyProof.Rows L2
section
variable {X : Cx} {C : Cf} {E : XK} {CX : CXT} {k : Nat}
/-- a def's promise -/
def spD (C : Cf) (n : Nat) (m : List VD → Mem → Res VD) : Sp := fun vs H Q E => ∃ W M ds, Ok C W H M ∧ RepVA C W vs ds ∧ ds.length = n ∧ post C (relV C) E Q W H (m ds M)
theorem spD_len {n : Nat} {m} : ∀ vs H Q E, spD C n m vs H Q E → vs.length = n := fun vs H Q E h => by
  obtain ⟨W, M, ds, _, r, l, _⟩ := h
  rw [r.length, l]
structure Callee (P : Program) (w : World) (K : PySem.W.Frag) (mg : Str → Option Value) (base : Heap) (CX : CXT) (C : Cf) (x : Str) (j n : Nat) (m : List VD → Mem → Res VD) : Prop where
  ex : ∃ f fd ps, FnOk P w K mg base CX j f fd ps (spD C n m) ∧ mg x = some (.ref f) ∧ PySem.W.keepIn K (.ref f) = true ∧ Binds K fd ps []
def e_call (n : Nat) (m : List VD → Mem → Res VD) (ms : Mx (List VD)) : Mx VD := fun ρ M => (ms ρ M).bind fun vs M1 => if vs.length = n then m vs M1 else .fail
theorem sem_call {n : Nat} {m} {ta : TA} {ms : Mx (List VD)} (ha : SemA C E ta ms) : Sem C E (tCall (spD C n m) [] E ta) (e_call n m ms) := fun W σ H ρ M Q ok sl p => by
  refine ha W σ H ρ M _ ok sl (post_bind p fun vs M1 W1 H1 x l1 ok1 ra p1 => ?_)
  split at p1
  · rename_i hl
    rw [List.append_nil]
    exact ⟨W1, M1, vs, ok1, ra, hl, p1⟩
  · exact p1.elim
theorem x_call {j n : Nat} {m} {x : Str} {e : Expr} {es : List Expr} {ms : Mx (List VD)} {p pos : Pos} (c : Cxx X C E CX k) (F : Callee X.prog X.w X.K X.mg X.base CX C x j n m) (ha : PXA X C E (e :: es) ms) (hj : j ≤ k := by decide) (hg : Gl X x := by rfl)
    (hdb : (x == ("__debug__" : Str)) = false := by decide) (he : starEach (e :: es) X.env = (false, eval e X.env) :: starEach es X.env := by rfl) (hpl : (backTo pos (starEach es X.env)).any (·.1) = false := by rfl) :
    PX X C E (.Call (.Name x p) (e :: es) [] pos) (e_call n m ms) := by
  obtain ⟨f, fd, ps, F, hm, hk, hb⟩ := F.ex
  obtain ⟨ta, pa, sa⟩ := ha
  exact ⟨_, pe_call F (c.hr.mono hj) hg hm hk hb .nil c.pas pa hdb he hpl, sem_call sa⟩
def e_bi (f : List VD → Mem → Res VD) (ms : Mx (List VD)) : Mx VD := fun ρ M => (ms ρ M).bind f
theorem sem_bi {r : List V → Hp → VK → Prop} {f} {ta : TA} {ms : Mx (List VD)} (hf : CallS C E r f) (ha : SemA C E ta ms) : Sem C E (tCB r ta) (e_bi f ms) := fun W σ H ρ M Q ok sl p => by
  refine ha W σ H ρ M _ ok sl (post_bind p fun vs M1 W1 H1 x l1 ok1 ra p1 => ?_)
  exact hf W1 H1 M1 x vs Q ok1 ra p1
theorem x_bi {id : String} {r : List V → Hp → VK → Prop} {f} {x : Str} {e : Expr} {es : List Expr} {ms : Mx (List VD)} {p pos : Pos} (hc : CallR X (.builtin id) r) (hf : CallS C E r f) (hm : X.mg x = none) (hv : bootBuiltins x = some (.builtin id)) (ha : PXA X C E (e :: es) ms) (hg : Gl X x := by rfl)
    (hn : x ≠ "__name__" := by decide) (hdb : (x == ("__debug__" : Str)) = false := by decide) (he : starEach (e :: es) X.env = (false, eval e X.env) :: starEach es X.env := by rfl) (hpl : (backTo pos (starEach es X.env)).any (·.1) = false := by rfl) :
    PX X C E (.Call (.Name x p) (e :: es) [] pos) (e_bi f ms) := by
  obtain ⟨ta, pa, sa⟩ := ha
  exact ⟨_, pe_callB hc hg hm hv pa hn hdb he hpl, sem_bi hf sa⟩
theorem x_ty {id : String} {r : List V → Hp → VK → Prop} {f} {x : Str} {e : Expr} {es : List Expr} {ms : Mx (List VD)} {p pos : Pos} (hc : CallR X (.type id) r) (hf : CallS C E r f) (hm : X.mg x = none) (hv : bootBuiltins x = some (.type id)) (ha : PXA X C E (e :: es) ms) (hg : Gl X x := by rfl)
    (hn : x ≠ "__name__" := by decide) (hdb : (x == ("__debug__" : Str)) = false := by decide) (he : starEach (e :: es) X.env = (false, eval e X.env) :: starEach es X.env := by rfl) (hpl : (backTo pos (starEach es X.env)).any (·.1) = false := by rfl) :
    PX X C E (.Call (.Name x p) (e :: es) [] pos) (e_bi f ms) := by
  obtain ⟨ta, pa, sa⟩ := ha
  exact ⟨_, pe_callTy hc hg hm hv pa hn hdb he hpl, sem_bi hf sa⟩
theorem RepVA.one {W : Wd} {xs : List V} {a : VD} (h : RepVA C W xs [a]) : ∃ x, xs = [x] ∧ RepV C W x a := by
  cases h with
  | cons h r =>
    cases r
    exact ⟨_, rfl, h⟩
theorem RepVA.two {W : Wd} {xs : List V} {a b : VD} (h : RepVA C W xs [a, b]) : ∃ x y, xs = [x, y] ∧ RepV C W x a ∧ RepV C W y b := by
  cases h with
  | cons h r =>
    obtain ⟨y, rfl, h2⟩ := r.one
    exact ⟨_, _, rfl, h, h2⟩
def lenOf (M : Mem) : VD → Option Nat
  | .d (.str s) => if s.length ≤ lim then some s.length else none
  | a => (seqOf M a).map List.length
def f_len : List VD → Mem → Res VD
  | [a], M => match lenOf M a with
    | some n => .ok (.d (.int n)) M
    | none => .fail
  | _, _ => .fail
theorem p_len : CallS C E (fun xs H Q => ∃ x n, xs = [x] ∧ LenV C.K x H n ∧ Q (.int n) H) f_len := fun W H M xs as Q ok ra p => by
  unfold f_len at p
  split at p
  · rename_i a
    obtain ⟨x, rfl, r⟩ := ra.one
    split at p
    · rename_i n e
      refine ⟨x, n, rfl, ?_, post_ok p ok (.int _)⟩
      unfold lenOf at e
      split at e
      · split at e
        · rename_i hl
          cases inv_str r
          exact ⟨by rw [enc_len]; exact lim_le hl, by rw [enc_len]; exact (Option.some.inj e).symm⟩
        · cases e
      · cases q : seqOf M a with
        | none =>
          rw [q] at e
          cases e
        | some ds =>
          rw [q] at e
          have e : ds.length = n := Option.some.inj e
          obtain ⟨q, vs, rfl, hs, hr⟩ := seq_read ok r q
          rcases hs with hs | hs
          · exact .inl ⟨vs, hs, by rw [hr.length, e]⟩
          · exact .inr ⟨vs, hs, by rw [hr.length, e]⟩
    · exact p.elim
  · exact p.elim
def blL : List D → Option (List Bool)
  | [] => some []
  | .bl b :: r => (blL r).map (b :: ·)
  | _ => none
theorem RepA.blL {B : Hp} : ∀ {vs : List V} {ds : List D} {bs : List Bool}, RepA C B vs ds → blL ds = some bs → vs = bs.map V.bl
  | _, _, _, .nil, e => by cases e; rfl
  | _, _, _, .cons (d := .bl b) (ds := ds) h r, e => by
    cases q : G.blL ds with
    | none =>
      rw [G.blL, q] at e
      cases e
    | some ys =>
      rw [G.blL, q] at e
      cases e
      cases h
      rw [RepA.blL r q]
      rfl
  | _, _, _, .cons (d := .non) h r, e => by cases e
  | _, _, _, .cons (d := .int _) h r, e => by cases e
  | _, _, _, .cons (d := .str _) h r, e => by cases e
  | _, _, _, .cons (d := .lst _) h r, e => by cases e
  | _, _, _, .cons (d := .tup _) h r, e => by cases e
  | _, _, _, .cons (d := .obj _ _) h r, e => by cases e
  | _, _, _, .cons (d := .scr _) h r, e => by cases e
  | _, _, _, .cons (d := .clo _) h r, e => by cases e
  | _, _, _, .cons (d := .exn _ _) h r, e => by cases e
  | _, _, _, .cons (d := .pv _) h r, e => by cases e
  | _, _, _, .cons (d := .dck _ _) h r, e => by cases e
  | _, _, _, .cons (d := .dcp _ _) h r, e => by cases e
def inL : List D → Option (List Int)
  | [] => some []
  | .int b :: r => (inL r).map (b :: ·)
  | _ => none
def stL : List D → Option (List (List Nat))
  | [] => some []
  | .str b :: r => (stL r).map (b :: ·)
  | _ => none
theorem RepA.stL {B : Hp} : ∀ {vs : List V} {ds : List D} {bs : List (List Nat)}, RepA C B vs ds → stL ds = some bs → vs = (bs.map enc).map V.str
  | _, _, _, .nil, e => by cases e; rfl
  | _, _, _, .cons (d := .str b) (ds := ds) h r, e => by
    cases q : G.stL ds with
    | none =>
      rw [G.stL, q] at e
      cases e
    | some ys =>
      rw [G.stL, q] at e
      cases e
      cases h
      rw [RepA.stL r q]
      rfl
  | _, _, _, .cons (d := .non) h r, e => by cases e
  | _, _, _, .cons (d := .bl _) h r, e => by cases e
  | _, _, _, .cons (d := .int _) h r, e => by cases e
  | _, _, _, .cons (d := .lst _) h r, e => by cases e
  | _, _, _, .cons (d := .tup _) h r, e => by cases e
  | _, _, _, .cons (d := .obj _ _) h r, e => by cases e
  | _, _, _, .cons (d := .scr _) h r, e => by cases e
  | _, _, _, .cons (d := .clo _) h r, e => by cases e
  | _, _, _, .cons (d := .exn _ _) h r, e => by cases e
  | _, _, _, .cons (d := .pv _) h r, e => by cases e
  | _, _, _, .cons (d := .dck _ _) h r, e => by cases e
  | _, _, _, .cons (d := .dcp _ _) h r, e => by cases e
/-- a list of truth values -/
def f_bls (g : List Bool → Bool) : List VD → Mem → Res VD
  | [a], M => match (lstOf M a).bind blL with
    | some bs => .ok (.d (.bl (g bs))) M
    | none => .fail
  | _, _ => .fail
theorem bls_read {W : Wd} {H : Hp} {M : Mem} {x : V} {a : VD} {bs : List Bool} (ok : Ok C W H M) (r : RepV C W x a) (h : (lstOf M a).bind blL = some bs) : ∃ p, x = .ref p ∧ SqL C.K H p (bs.map V.bl) := by
  cases q : lstOf M a with
  | none =>
    rw [q] at h
    cases h
  | some ds =>
    rw [q] at h
    obtain ⟨p, vs, rfl, hs, hr⟩ := lst_read ok r q
    rw [hr.blL h] at hs
    exact ⟨p, rfl, SqL.of hs⟩
theorem p_all : CallS C E (rAll C.K) (f_bls fun bs => bs.all id) := fun W H M xs as Q ok ra p => by
  unfold f_bls at p
  split at p
  · obtain ⟨x, rfl, r⟩ := ra.one
    split at p
    · rename_i e
      obtain ⟨q, rfl, hs⟩ := bls_read ok r e
      exact ⟨q, _, rfl, hs, post_ok p ok (.bl _)⟩
    · exact p.elim
  · exact p.elim
def f_sum : List VD → Mem → Res VD
  | [a], M => match (lstOf M a).bind inL with
    | some bs => .ok (.d (.int bs.sum)) M
    | none => .fail
  | _, _ => .fail
def f_int : List VD → Mem → Res VD
  | [.d (.int i)], M => .ok (.d (.int i)) M
  | [.d (.bl b)], M => .ok (.d (.int (if b then 1 else 0))) M
  | _, _ => .fail
theorem p_int : CallS C E (fun xs H Q => (∃ i, xs = [.int i] ∧ Q (.int i) H) ∨ ∃ k, xs = [.bl k] ∧ Q (.int (if k then 1 else 0)) H) f_int := fun W H M xs as Q ok ra p => by
  unfold f_int at p
  split at p
  · obtain ⟨x, rfl, r⟩ := ra.one
    cases inv_int r
    exact .inl ⟨_, rfl, post_ok p ok (.int _)⟩
  · obtain ⟨x, rfl, r⟩ := ra.one
    cases inv_bl r
    exact .inr ⟨_, rfl, post_ok p ok (.int _)⟩
  · exact p.elim
def f_list : List VD → Mem → Res VD
  | [.d (.str s)], M => if s.length ≤ lim then .ok (.d (.lst (s.map fun c => .str [c]))) M else .fail
  | [a], M => match seqOf M a with
    | some ds => .ok (.d (.lst ds)) M
    | none => .fail
  | _, _ => .fail
def rLs (K : PySem.W.Frag) : List V → Hp → VK → Prop := fun xs H Q => (∃ p ys, xs = [.ref p] ∧ (SqL K H p ys ∨ SqT K H p ys) ∧ ∀ l, H l = none → Q (.ref l) (upd H l (.lst ys))) ∨ (∃ s : List Nat, xs = [.str (enc s)] ∧ s.length ≤ sizeLine ∧ ∀ l, H l = none → Q (.ref l) (upd H l (.lst (s.map fun c => V.str ⟨#[c]⟩))))
theorem repA_chars {B : Hp} : ∀ s : List Nat, RepA C B (s.map fun c => V.str ⟨#[c]⟩) (s.map fun c => D.str [c])
  | [] => .nil
  | c :: s => .cons (Rep.str [c]) (repA_chars s)
theorem p_list : CallS C E (rLs C.K) f_list := fun W H M xs as Q ok ra p => by
  unfold f_list at p
  split at p
  · obtain ⟨x, rfl, r⟩ := ra.one
    cases inv_str r
    split at p
    · rename_i h
      exact .inr ⟨_, rfl, lim_le h, post_lst p ok (repA_chars _)⟩
    · exact p.elim
  · obtain ⟨x, rfl, r⟩ := ra.one
    split at p
    · rename_i ds e
      obtain ⟨q, vs, rfl, hs, hr⟩ := seq_read ok r e
      exact .inl ⟨q, vs, rfl, hs, post_lst p ok hr⟩
    · exact p.elim
  · exact p.elim
theorem vals_ix : ∀ (xs : List V) (us : List Value), us.length = xs.length → (∀ (j : Nat) (u : Value), us[j]? = some u → ∃ x, xs[j]? = some x ∧ RelV x u) → Vals xs us
  | [], [], _, _ => .nil
  | [], _ :: _, h, _ => by simp at h
  | _ :: _, [], h, _ => by simp at h
  | x :: xs, u :: us, h, k => by
    obtain ⟨y, e, r⟩ := k 0 u rfl
    obtain rfl : x = y := by simpa using e
    exact .cons r (vals_ix xs us (by simpa using h) fun j v hv => by simpa using k (j + 1) v (by simpa using hv))
theorem call_list_s {X : Cx} (hc : X.calm = true) : CallR X (.type "list") (fun xs H Q => ∃ s : List Nat, xs = [.str (enc s)] ∧ s.length ≤ sizeLine ∧ ∀ l, H l = none → Q (.ref l) (upd H l (.lst (s.map fun c => V.str ⟨#[c]⟩)))) := by
  intro pins s σ H xs us Q I r h
  obtain ⟨z, rfl, hz, q⟩ := h
  obtain ⟨u, rfl, t, rfl⟩ := vals1 r
  have he : (enc z).cps.size = z.length := by simp [enc]
  refine call_list_str (I.ok.hd hc) (enc z) t (fun h' tk acc c' hk e hi => ?_) (by rw [he]; exact hz)
  rw [he] at hi
  refine ⟨.ref s.heap.objs.size, upd H s.heap.objs.size (.lst (z.map fun c => V.str ⟨#[c]⟩)), I.laid hk (Nat.le_refl _) ⟨by rw [List.length_map]; exact hz, acc.toList, c', ?_, by rw [Array.toArray_toList]; exact e⟩, rfl, q _ (I.hok.fresh (Nat.le_refl _))⟩
  refine vals_ix _ _ (by rw [List.length_map]; simpa using hi.1) fun j u hj => ?_
  obtain ⟨c, t', hc, rfl⟩ := hi.2 j u (by rw [← Array.getElem?_toList]; exact hj)
  exact ⟨.str ⟨#[c]⟩, by rw [List.getElem?_map]; simp [enc] at hc; simp [hc], ⟨_, rfl⟩⟩
theorem call_list_all {X : Cx} (hc : X.calm = true) : CallR X (.type "list") (rLs X.K) := CallR.or call_list_of (call_list_s hc)
inductive BT where
  | int | bool | str | list | tuple
  deriving DecidableEq
def BT.nm : BT → String
  | .int => "int" | .bool => "bool" | .str => "str" | .list => "list" | .tuple => "tuple"
/-- a value's own kind -/
inductive VT where
  | none | bool | int | str | list | tuple
def VT.nm : VT → String
  | .none => "NoneType" | .bool => "bool" | .int => "int" | .str => "str" | .list => "list" | .tuple => "tuple"
def VT.isA : VT → BT → Bool
  | .bool, .bool => true | .bool, .int => true | .int, .int => true | .str, .str => true | .list, .list => true | .tuple, .tuple => true
  | _, _ => false
theorem vt_kit (v : VT) (b : BT) : kitB v.nm b.nm = some (v.isA b) := by
  cases v <;> cases b <;> decide +kernel
def vtOf (M : Mem) : VD → Option VT
  | .d .non => some .none
  | .d (.bl _) => some .bool
  | .d (.int _) => some .int
  | .d (.str _) => some .str
  | .d (.lst _) => some .list
  | .d (.tup _) => some .tuple
  | .d (.obj _ _) => Option.none
  | .d (.scr _) => Option.none
  | .d (.clo _) => Option.none
  | .d (.exn _ _) => Option.none
  | .d (.pv _) => Option.none
  | .d (.dck _ _) => Option.none
  | .d (.dcp _ _) => Option.none
  | .adr i => match M[i]? with
    | some (.lst _) => some .list
    | _ => Option.none
theorem vt_ty {W : Wd} {H : Hp} {M : Mem} {x : V} {a : VD} {t : VT} (ok : Ok C W H M) (r : RepV C W x a) (h : vtOf M a = some t) : TyX C.K H x (.type t.nm) := by
  unfold vtOf at h
  split at h
  · cases h; cases inv_non r; exact .base .non
  · cases h; cases inv_bl r; exact .base (.bl _)
  · cases h; cases inv_int r; exact .base (.int _)
  · cases h; cases inv_str r; exact .base (.str _)
  · rename_i ds
    cases h
    cases (show Rep C W.B x (.lst ds) from r) with
    | lst h1 h2 => exact .base (.lst (ok.sub _ _ h1))
  · rename_i ds
    cases h
    cases (show Rep C W.B x (.tup ds) from r) with
    | tup h1 h2 =>
      rcases sqT_sub ok.sub h1 with (h | ⟨o, h⟩) | ⟨o, its, n, h, hc, _⟩
      · exact .base (.tup h)
      · exact .fTuple h
      · exact .kTuple h hc
  · cases h
  · cases h
  · cases h
  · cases h
  · cases h
  · cases h
  · cases h
  · obtain ⟨q, rfl, hq⟩ := r
    split at h
    · rename_i e
      cases h
      obtain ⟨_, vs, h1, h2⟩ := ok.mo _ q _ hq e
      exact .base (.lst h1)
    · cases h
def e_isi (b : BT) (m : Mx VD) : Mx VD := fun ρ M => (m ρ M).bind fun v M1 => match vtOf M1 v with
  | some t => .ok (.d (.bl (t.isA b))) M1
  | none => .fail
theorem x_isi {b : BT} {e : Expr} {t : Str} {m : Mx VD} {p p2 pos : Pos} (hK : C.K = X.K) (ha : PX X C E e m) (hmi : X.mg "isinstance" = none) (hmt : X.mg t = none) (hv : bootBuiltins t = some (.type b.nm)) (hg : Gl X "isinstance" := by rfl) (hgt : Gl X t := by rfl)
    (hn : t ≠ "__name__" := by decide) (hd : (t == ("__debug__" : Str)) = false := by decide) (he : starEach [e, .Name t p2] X.env = (false, eval e X.env) :: starEach [.Name t p2] X.env := by rfl) (he2 : starEach [.Name t p2] X.env = (false, eval (.Name t p2) X.env) :: starEach [] X.env := by rfl) (hpl : (backTo pos (starEach [.Name t p2] X.env)).any (·.1) = false := by rfl) :
    PX X C E (.Call (.Name "isinstance" p) [e, .Name t p2] [] pos) (e_isi b m) := by
  obtain ⟨ta, pa, sa⟩ := ha
  refine ⟨_, pe_callB call_isi hg hmi (by decide +kernel) (pa_cons pa (pa_cons (pe_bltn (v := .ty b.nm) hgt hmt hv rfl (hn := hn) (hd := hd)) pa_nil he2) he) (by decide) (by decide) he hpl, fun W σ H ρ M Q ok sl p => ?_⟩
  refine sa W σ H ρ M _ ok sl (post_bind p fun a M1 W1 H1 x l1 ok1 ra p1 => ?_)
  split at p1
  · rename_i t e
    refine ⟨x, .ty b.nm, .type t.nm, _, _, rfl, .ty _, ?_, kit_ty (vt_kit t b), post_ok p1 ok1 (.bl _)⟩
    rw [← hK]
    exact vt_ty ok1 ra e
  · exact p1.elim
/-- isinstance(x, (T1, T2)) -/
def e_isi2 (b b2 : BT) (m : Mx VD) : Mx VD := fun ρ M => (m ρ M).bind fun v M1 => match vtOf M1 v with
  | some t => .ok (.d (.bl (t.isA b || t.isA b2))) M1
  | none => .fail
theorem x_isi2 {b b2 : BT} {e : Expr} {t t2 : Str} {m : Mx VD} {kt} {p p2 p3 pt pos : Pos} (hK : C.K = X.K) (ha : PX X C E e m) (hmi : X.mg "isinstance" = none) (hmt : X.mg t = none) (hmt2 : X.mg t2 = none) (hv : bootBuiltins t = some (.type b.nm)) (hv2 : bootBuiltins t2 = some (.type b2.nm)) (hg : Gl X "isinstance" := by rfl) (hgt : Gl X t := by rfl) (hgt2 : Gl X t2 := by rfl)
    (hn : t ≠ "__name__" := by decide) (hd : (t == ("__debug__" : Str)) = false := by decide) (hn2 : t2 ≠ "__name__" := by decide) (hd2 : (t2 == ("__debug__" : Str)) = false := by decide)
    (he : starEach [e, .Tuple [.Name t p2, .Name t2 p3] kt pt] X.env = (false, eval e X.env) :: starEach [.Tuple [.Name t p2, .Name t2 p3] kt pt] X.env := by rfl)
    (he2 : starEach [.Tuple [.Name t p2, .Name t2 p3] kt pt] X.env = (false, eval (.Tuple [.Name t p2, .Name t2 p3] kt pt) X.env) :: starEach [] X.env := by rfl)
    (he3 : starEach [.Name t p2, .Name t2 p3] X.env = (false, eval (.Name t p2) X.env) :: starEach [.Name t2 p3] X.env := by rfl) (he4 : starEach [.Name t2 p3] X.env = (false, eval (.Name t2 p3) X.env) :: starEach [] X.env := by rfl)
    (hpl : (backTo pos (starEach [.Tuple [.Name t p2, .Name t2 p3] kt pt] X.env)).any (·.1) = false := by rfl) :
    PX X C E (.Call (.Name "isinstance" p) [e, .Tuple [.Name t p2, .Name t2 p3] kt pt] [] pos) (e_isi2 b b2 m) := by
  obtain ⟨ta, pa, sa⟩ := ha
  refine ⟨_, pe_callB call_isiT hg hmi (by decide +kernel) (pa_cons pa (pa_cons (pe_tup (pa_cons (pe_bltn (v := .ty b.nm) hgt hmt hv rfl (hn := hn) (hd := hd)) (pa_cons (pe_bltn (v := .ty b2.nm) hgt2 hmt2 hv2 rfl (hn := hn2) (hd := hd2)) pa_nil he4) he3)) pa_nil he2) he) (by decide) (by decide) he hpl, fun W σ H ρ M Q ok sl p => ?_⟩
  refine sa W σ H ρ M _ ok sl (post_bind p fun a M1 W1 H1 x l1 ok1 ra p1 => ?_)
  split at p1
  · rename_i t e
    refine ⟨by show 2 ≤ sizeLine; decide, fun q hq => ?_⟩
    have st : Step W1 H1 W1 (upd H1 q (.tup [V.ty b.nm, V.ty b2.nm])) := Step.grow hq
    have ok2 := ok1.grow (same_upd hq (o := .tup [V.ty b.nm, V.ty b2.nm]))
    refine ⟨x, q, [.ty b.nm, .ty b2.nm], .type t.nm, [.type b.nm, .type b2.nm], t.isA b || t.isA b2, rfl, upd_same, .cons (.ty _) (.cons (.ty _) .nil), ?_, ?_, p1 _ _ _ st ok2 (.bl _)⟩
    · rw [← hK]
      exact vt_ty ok2 ra e
    · exact kitAny_cons (kit_ty (vt_kit t b)) (fun e1 => by
        rw [e1, Bool.false_or]
        exact kitAny_cons (kit_ty (vt_kit t b2)) (fun e2 => by rw [e2]; exact kitAny_nil) (fun e2 => e2)) (fun e1 => by rw [e1, Bool.true_or])
  · exact p1.elim
end
end G
namespace G
open PySem PySem.Spec PyProof.Rows L2
structure Walks (C : Cf) (J : It) (items : List D) (W0 : Wd) : Prop where
  go : ∀ (i : Nat) (W : Wd) (H : Hp) (M : Mem), Le W0 W → Ok C W H M → i < items.length → J.go i H
  yld : ∀ (i : Nat) (W : Wd) (H : Hp) (M : Mem) (x : V) (H' : Hp), Le W0 W → Ok C W H M → i < items.length → J.yld i H x H' → ∃ W' d, items[i]? = some d ∧ Step W H W' H' ∧ Ok C W' H' M ∧ Rep C W'.B x d
  stop : ∀ (i : Nat) (W : Wd) (H : Hp) (M : Mem), Le W0 W → Ok C W H M → items.length ≤ i → J.stop i H
theorem Walks.mono {C : Cf} {J : It} {items : List D} {W W' : Wd} (l : Le W W') (h : Walks C J items W) : Walks C J items W' :=
  ⟨fun i W2 H M l2 => h.go i W2 H M (l.trans l2), fun i W2 H M x H' l2 => h.yld i W2 H M x H' (l.trans l2), fun i W2 H M l2 => h.stop i W2 H M (l.trans l2)⟩
abbrev relI (C : Cf) : Wd → It → List D → Prop := fun W J items => Walks C J items W
def SemI (C : Cf) (E : XK) (wi : TI) (mi : Mx (List D)) : Prop := ∀ W σ H ρ M R, Ok C W H M → Slots C W σ ρ → post C (relI C) E R W H (mi ρ M) → wi σ H R
structure PXI (X : Cx) (C : Cf) (E : XK) (tg iter : Expr) (mi : Mx (List D)) : Prop where
  ex : ∃ wi, PI X tg iter wi ∧ SemI C E wi mi
section
variable {X : Cx} {C : Cf} {E : XK} {CX : CXT} {k : Nat}
theorem walks_list {W : Wd} {a : Addr} {vs : List V} {ds : List D} (h : W.B a = some (.lst vs)) (r : RepA C W.B vs ds) : Walks C (Itl C.K a) ds W where
  go := fun i W2 H M l ok hi => by
    obtain ⟨d, hd⟩ : ∃ d, ds[i]? = some d := ⟨ds[i], List.getElem?_eq_getElem hi⟩
    obtain ⟨v, hv, _⟩ := r.get hd
    exact ⟨vs, v, SqL.of (ok.sub _ _ (l.1 _ _ h)), hv⟩
  yld := fun i W2 H M x H' l ok hi y => by
    obtain ⟨d, hd⟩ : ∃ d, ds[i]? = some d := ⟨ds[i], List.getElem?_eq_getElem hi⟩
    obtain ⟨v, hv, rv⟩ := r.get hd
    obtain ⟨e, y⟩ := y
    subst e
    have e2 := y vs (SqL.of (ok.sub _ _ (l.1 _ _ h)))
    rw [hv] at e2
    cases e2
    exact ⟨W2, d, hd, Step.refl _ _, ok, rv.mono l.1⟩
  stop := fun i W2 H M l ok hi => ⟨vs, SqL.of (ok.sub _ _ (l.1 _ _ h)), by rw [r.length]; exact hi⟩
theorem walks_tup {W : Wd} {a : Addr} {vs : List V} {ds : List D} (h : SqT C.K W.B a vs) (r : RepA C W.B vs ds) : Walks C (Itt C.K a) ds W where
  go := fun i W2 H M l ok hi => by
    obtain ⟨d, hd⟩ : ∃ d, ds[i]? = some d := ⟨ds[i], List.getElem?_eq_getElem hi⟩
    obtain ⟨v, hv, _⟩ := r.get hd
    exact ⟨vs, v, sqT_sub ok.sub (sqT_sub l.1 h), hv⟩
  yld := fun i W2 H M x H' l ok hi y => by
    obtain ⟨d, hd⟩ : ∃ d, ds[i]? = some d := ⟨ds[i], List.getElem?_eq_getElem hi⟩
    obtain ⟨v, hv, rv⟩ := r.get hd
    obtain ⟨e, y⟩ := y
    subst e
    have e2 := y vs (sqT_sub ok.sub (sqT_sub l.1 h))
    rw [hv] at e2
    cases e2
    exact ⟨W2, d, hd, Step.refl _ _, ok, rv.mono l.1⟩
  stop := fun i W2 H M l ok hi => ⟨vs, sqT_sub ok.sub (sqT_sub l.1 h), by rw [r.length]; exact hi⟩
def chars (s : List Nat) : List D := s.map fun c => .str [c]
theorem walks_str {W : Wd} {s : List Nat} : Walks C (Its (enc s)) (chars s) W where
  go := fun i W2 H M l ok hi => by
    show i < (enc s).cps.size
    simpa [enc, chars] using hi
  yld := fun i W2 H M x H' l ok hi y => by
    obtain ⟨e, c, hc, hx⟩ := y
    subst e hx
    have hc : s[i]? = some c := by simpa [enc] using hc
    refine ⟨W2, .str [c], by simp [chars, hc], Step.refl _ _, ok, Rep.str [c]⟩
  stop := fun i W2 H M l ok hi => by
    show (enc s).cps.size ≤ i
    simpa [enc, chars] using hi
def range (lo : Int) (n : Nat) : List D := (List.range n).map fun (i : Nat) => .int (lo + i)
theorem walks_range {W : Wd} {lo : Int} {n : Nat} : Walks C (Itr lo n) (range lo n) W where
  go := fun i W2 H M l ok hi => by
    show i < n
    simpa [range] using hi
  yld := fun i W2 H M x H' l ok hi y => by
    obtain ⟨e, hx⟩ := y
    subst e hx
    have hi : i < n := by simpa [range] using hi
    exact ⟨W2, .int (lo + i), by simp [range, hi], Step.refl _ _, ok, Rep.int _⟩
  stop := fun i W2 H M l ok hi => by
    show n ≤ i
    simpa [range] using hi
def i_lst (a : Mx VD) : Mx (List D) := fun ρ M => (a ρ M).bind fun v M1 => match v with
  | .d (.lst ds) => .ok ds M1
  | _ => .fail
def i_tup (a : Mx VD) : Mx (List D) := fun ρ M => (a ρ M).bind fun v M1 => match v with
  | .d (.tup ds) => .ok ds M1
  | _ => .fail
def i_str (a : Mx VD) : Mx (List D) := fun ρ M => (a ρ M).bind fun v M1 => match v with
  | .d (.str s) => .ok (chars s) M1
  | _ => .fail
theorem xi_lst {tg e : Expr} {m : Mx VD} (hK : C.K = X.K) (h : PX X C E e m) : PXI X C E tg e (i_lst m) := by
  obtain ⟨ta, pa, sa⟩ := h
  refine ⟨_, pi_list pa, fun W σ H ρ M R ok sl p => ?_⟩
  refine sa W σ H ρ M _ ok sl (post_bind p fun a M1 W1 H1 x l1 ok1 ra p1 => ?_)
  split at p1
  · rename_i _ ds
    cases (show Rep C W1.B x (.lst ds) from ra) with
    | lst h1 h2 =>
      refine ⟨_, rfl, ⟨_, SqL.of (ok1.sub _ _ h1)⟩, ?_⟩
      rw [← hK]
      exact post_ok p1 ok1 (walks_list h1 h2)
  · exact p1.elim
theorem xi_tup {tg e : Expr} {m : Mx VD} (hK : C.K = X.K) (h : PX X C E e m) : PXI X C E tg e (i_tup m) := by
  obtain ⟨ta, pa, sa⟩ := h
  refine ⟨_, pi_tup pa, fun W σ H ρ M R ok sl p => ?_⟩
  refine sa W σ H ρ M _ ok sl (post_bind p fun a M1 W1 H1 x l1 ok1 ra p1 => ?_)
  split at p1
  · rename_i _ ds
    cases (show Rep C W1.B x (.tup ds) from ra) with
    | tup h1 h2 =>
      refine ⟨_, rfl, ⟨_, by rw [← hK]; exact sqT_sub ok1.sub h1⟩, ?_⟩
      rw [← hK]
      exact post_ok p1 ok1 (walks_tup h1 h2)
  · exact p1.elim
theorem xi_str {tg e : Expr} {m : Mx VD} (h : PX X C E e m) : PXI X C E tg e (i_str m) := by
  obtain ⟨ta, pa, sa⟩ := h
  refine ⟨_, pi_str pa, fun W σ H ρ M R ok sl p => ?_⟩
  refine sa W σ H ρ M _ ok sl (post_bind p fun a M1 W1 H1 x l1 ok1 ra p1 => ?_)
  split at p1
  · cases inv_str ra
    exact ⟨_, rfl, post_ok p1 ok1 walks_str⟩
  · exact p1.elim
noncomputable def i_rng1 (ms : Mx (List VD)) : Mx (List D) := fun ρ M => (ms ρ M).bind fun vs M1 => match vs with
  | [.d (.int j)] => gi (-(2 ^ 60) < j ∧ j < 2 ^ 60) (.ok (range 0 j.toNat) M1) .fail
  | _ => .fail
noncomputable def i_rng2 (ms : Mx (List VD)) : Mx (List D) := fun ρ M => (ms ρ M).bind fun vs M1 => match vs with
  | [.d (.int i), .d (.int j)] => gi ((-(2 ^ 60) < i ∧ i < 2 ^ 60) ∧ (-(2 ^ 60) < j ∧ j < 2 ^ 60)) (.ok (range i (j - i).toNat) M1) .fail
  | _ => .fail
theorem xi_rng1 {tg a : Expr} {ms : Mx (List VD)} {p pos : Pos} (hm : X.mg "range" = none) (h : PXA X C E [a] ms) (hg : Gl X "range" := by rfl) (hs : starEach [a] X.env = [(false, eval a X.env)] := by rfl) : PXI X C E tg (.Call (.Name "range" p) [a] [] pos) (i_rng1 ms) := by
  obtain ⟨ta, pa, sa⟩ := h
  refine ⟨_, pi_range1 hg hm pa hs, fun W σ H ρ M R ok sl p => ?_⟩
  refine sa W σ H ρ M _ ok sl (post_bind p fun a M1 W1 H1 x l1 ok1 ra p1 => ?_)
  split at p1
  · unfold gi at p1
    split at p1
    · rename_i j hj
      obtain ⟨y, rfl, r⟩ := ra.one
      cases inv_int r
      exact ⟨_, rfl, by omega, by omega, post_ok p1 ok1 walks_range⟩
    · exact p1.elim
  · exact p1.elim
def enumL (ds : List D) : Nat → List D := fun i => match ds with
  | [] => []
  | d :: r => .tup [.int i, d] :: enumL r (i + 1)
theorem enumL_get : ∀ (ds : List D) (j i : Nat), (enumL ds j)[i]? = (ds[i]?).map fun d => D.tup [.int ((j + i : Nat) : Int), d]
  | [], _, _ => by simp [enumL]
  | d :: r, j, 0 => by simp [enumL]
  | d :: r, j, i + 1 => by
    simp only [enumL, List.getElem?_cons_succ, enumL_get r (j + 1) i]
    rw [show j + 1 + i = j + (i + 1) by omega]
theorem enumL_len : ∀ (ds : List D) (j : Nat), (enumL ds j).length = ds.length
  | [], _ => rfl
  | d :: r, j => by simp [enumL, enumL_len r (j + 1)]
theorem rep_tup2 {B : Hp} {T : Addr} {x y : V} {a b : D} (h : B T = some (.tup [x, y])) (r1 : Rep C B x a) (r2 : Rep C B y b) : Rep C B (.ref T) (.tup [a, b]) := Rep.tup (.inl (.inl h)) (.cons r1 (.cons r2 .nil))
theorem walks_enum {W : Wd} {a : Addr} {vs : List V} {ds : List D} (h : W.B a = some (.lst vs)) (r : RepA C W.B vs ds) : Walks C (Ite C.K a) (enumL ds 0) W where
  go := fun i W2 H M l ok hi => by
    rw [enumL_len] at hi
    obtain ⟨d, hd⟩ : ∃ d, ds[i]? = some d := ⟨ds[i], List.getElem?_eq_getElem hi⟩
    obtain ⟨v, hv, _⟩ := r.get hd
    exact ⟨vs, v, SqL.of (ok.sub _ _ (l.1 _ _ h)), hv⟩
  yld := fun i W2 H M x H' l ok hi y => by
    rw [enumL_len] at hi
    obtain ⟨d, hd⟩ : ∃ d, ds[i]? = some d := ⟨ds[i], List.getElem?_eq_getElem hi⟩
    obtain ⟨v, hv, rv⟩ := r.get hd
    obtain ⟨T, z, rfl, hT, rfl, y⟩ := y
    have e2 := y vs (SqL.of (ok.sub _ _ (l.1 _ _ h)))
    rw [hv] at e2
    cases e2
    obtain ⟨ok', l'⟩ := ok.new (o := .tup [.int (i : Nat), v]) hT
    refine ⟨_, .tup [.int ((0 + i : Nat) : Int), d], by rw [enumL_get, hd] <;> rfl, Step.new ok hT, ok', ?_⟩
    rw [Nat.zero_add]
    exact rep_tup2 (by show upd W2.B T _ T = _; rw [upd_same]) (.int _) (rv.mono (l.trans l').1)
  stop := fun i W2 H M l ok hi => ⟨vs, SqL.of (ok.sub _ _ (l.1 _ _ h)), by rw [r.length]; rw [enumL_len] at hi; exact hi⟩
def i_enum (ms : Mx (List VD)) : Mx (List D) := fun ρ M => (ms ρ M).bind fun vs M1 => match vs with
  | [.d (.lst ds)] => .ok (enumL ds 0) M1
  | _ => .fail
theorem xi_enum {e : Expr} {ms : Mx (List VD)} {elts : List Expr} {kk : Nat} {tpos p pos : Pos} (hK : C.K = X.K) (hm : X.mg "enumerate" = none) (h : PXA X C E [e] ms) (hg : Gl X "enumerate" := by rfl) (hs : starEach [e] X.env = [(false, eval e X.env)] := by rfl) : PXI X C E (.Tuple elts kk tpos) (.Call (.Name "enumerate" p) [e] [] pos) (i_enum ms) := by
  obtain ⟨ta, pa, sa⟩ := h
  refine ⟨_, pi_enum hg hm pa hs, fun W σ H ρ M R ok sl p => ?_⟩
  refine sa W σ H ρ M _ ok sl (post_bind p fun a M1 W1 H1 x l1 ok1 ra p1 => ?_)
  split at p1
  · rename_i _ ds
    obtain ⟨y, rfl, r⟩ := ra.one
    cases (show Rep C W1.B y (.lst ds) from r) with
    | lst h1 h2 =>
      rw [← hK]
      exact ⟨_, _, rfl, SqL.of (ok1.sub _ _ h1), post_ok p1 ok1 (walks_enum h1 h2)⟩
  · exact p1.elim
def zipL : List D → List D → List D
  | a :: as, b :: bs => .tup [a, b] :: zipL as bs
  | _, _ => []
theorem zipL_get : ∀ (xs ys : List D) (i : Nat) (a b : D), xs[i]? = some a → ys[i]? = some b → (zipL xs ys)[i]? = some (.tup [a, b])
  | [], _, _, _, _, h, _ => by simp at h
  | _ :: _, [], _, _, _, _, h => by simp at h
  | x :: xs, y :: ys, 0, a, b, h1, h2 => by
    simp at h1 h2
    subst h1 h2
    rfl
  | x :: xs, y :: ys, i + 1, a, b, h1, h2 => by
    simp at h1 h2
    simp only [zipL, List.getElem?_cons_succ]
    exact zipL_get xs ys i a b h1 h2
theorem zipL_len : ∀ (xs ys : List D), (zipL xs ys).length = min xs.length ys.length
  | [], _ => by simp [zipL]
  | _ :: _, [] => by simp [zipL]
  | x :: xs, y :: ys => by
    simp only [zipL, List.length_cons, zipL_len xs ys]
    omega
theorem walks_zip {W : Wd} {a b : Addr} {vs ws : List V} {ds es : List D} (h : W.B a = some (.lst vs)) (r : RepA C W.B vs ds) (h' : W.B b = some (.lst ws)) (r' : RepA C W.B ws es) : Walks C (Itz C.K a b) (zipL ds es) W where
  go := fun i W2 H M l ok hi => by
    rw [zipL_len] at hi
    obtain ⟨d, hd⟩ : ∃ d, ds[i]? = some d := ⟨ds[i], List.getElem?_eq_getElem (by omega)⟩
    obtain ⟨v, hv, _⟩ := r.get hd
    obtain ⟨e, he⟩ : ∃ d, es[i]? = some d := ⟨es[i], List.getElem?_eq_getElem (by omega)⟩
    obtain ⟨u, hu, _⟩ := r'.get he
    exact ⟨vs, ws, v, u, SqL.of (ok.sub _ _ (l.1 _ _ h)), SqL.of (ok.sub _ _ (l.1 _ _ h')), hv, hu⟩
  yld := fun i W2 H M x H' l ok hi y => by
    rw [zipL_len] at hi
    obtain ⟨d, hd⟩ : ∃ d, ds[i]? = some d := ⟨ds[i], List.getElem?_eq_getElem (by omega)⟩
    obtain ⟨v, hv, rv⟩ := r.get hd
    obtain ⟨e, he⟩ : ∃ d, es[i]? = some d := ⟨es[i], List.getElem?_eq_getElem (by omega)⟩
    obtain ⟨u, hu, ru⟩ := r'.get he
    obtain ⟨T, z1, z2, rfl, hT, rfl, y1, y2⟩ := y
    have e1 := y1 vs (SqL.of (ok.sub _ _ (l.1 _ _ h)))
    rw [hv] at e1
    cases e1
    have e2 := y2 ws (SqL.of (ok.sub _ _ (l.1 _ _ h')))
    rw [hu] at e2
    cases e2
    obtain ⟨ok', l'⟩ := ok.new (o := .tup [v, u]) hT
    refine ⟨_, .tup [d, e], zipL_get _ _ _ _ _ hd he, Step.new ok hT, ok', ?_⟩
    exact rep_tup2 (by show upd W2.B T _ T = _; rw [upd_same]) (rv.mono (l.trans l').1) (ru.mono (l.trans l').1)
  stop := fun i W2 H M l ok hi => ⟨vs, ws, SqL.of (ok.sub _ _ (l.1 _ _ h)), SqL.of (ok.sub _ _ (l.1 _ _ h')), by rw [r.length, r'.length]; rw [zipL_len] at hi; omega⟩
theorem walks_zipT {W : Wd} {a b : Addr} {vs ws : List V} {ds es : List D} (h : SqT C.K W.B a vs) (r : RepA C W.B vs ds) (h' : SqT C.K W.B b ws) (r' : RepA C W.B ws es) : Walks C (RZ.ItzT C.K a b) (zipL ds es) W where
  go := fun i W2 H M l ok hi => by
    rw [zipL_len] at hi
    obtain ⟨d, hd⟩ : ∃ d, ds[i]? = some d := ⟨ds[i], List.getElem?_eq_getElem (by omega)⟩
    obtain ⟨v, hv, _⟩ := r.get hd
    obtain ⟨e, he⟩ : ∃ d, es[i]? = some d := ⟨es[i], List.getElem?_eq_getElem (by omega)⟩
    obtain ⟨u, hu, _⟩ := r'.get he
    exact ⟨vs, ws, v, u, sqT_sub ok.sub (sqT_sub l.1 h), sqT_sub ok.sub (sqT_sub l.1 h'), hv, hu⟩
  yld := fun i W2 H M x H' l ok hi y => by
    rw [zipL_len] at hi
    obtain ⟨d, hd⟩ : ∃ d, ds[i]? = some d := ⟨ds[i], List.getElem?_eq_getElem (by omega)⟩
    obtain ⟨v, hv, rv⟩ := r.get hd
    obtain ⟨e, he⟩ : ∃ d, es[i]? = some d := ⟨es[i], List.getElem?_eq_getElem (by omega)⟩
    obtain ⟨u, hu, ru⟩ := r'.get he
    obtain ⟨T, z1, z2, rfl, hT, rfl, y1, y2⟩ := y
    have e1 := y1 vs (sqT_sub ok.sub (sqT_sub l.1 h))
    rw [hv] at e1
    cases e1
    have e2 := y2 ws (sqT_sub ok.sub (sqT_sub l.1 h'))
    rw [hu] at e2
    cases e2
    obtain ⟨ok', l'⟩ := ok.new (o := .tup [v, u]) hT
    refine ⟨_, .tup [d, e], zipL_get _ _ _ _ _ hd he, Step.new ok hT, ok', ?_⟩
    exact rep_tup2 (by show upd W2.B T _ T = _; rw [upd_same]) (rv.mono (l.trans l').1) (ru.mono (l.trans l').1)
  stop := fun i W2 H M l ok hi => ⟨vs, ws, sqT_sub ok.sub (sqT_sub l.1 h), sqT_sub ok.sub (sqT_sub l.1 h'), by rw [r.length, r'.length]; rw [zipL_len] at hi; omega⟩
def zipI (vs : List VD) (M : Mem) : Res (List D) := match vs with
  | [.d (.lst ds), .d (.lst es)] => .ok (zipL ds es) M
  | [.d (.tup ds), .d (.tup es)] => .ok (zipL ds es) M
  | _ => .fail
def i_zip (ms : Mx (List VD)) : Mx (List D) := fun ρ M => (ms ρ M).bind zipI
theorem xi_zip {e e2 : Expr} {ms : Mx (List VD)} {elts : List Expr} {kk : Nat} {tpos p pos : Pos} (hK : C.K = X.K) (hm : X.mg "zip" = none) (h : PXA X C E [e, e2] ms) (hg : Gl X "zip" := by rfl) (hs : starEach [e, e2] X.env = (false, eval e X.env) :: starEach [e2] X.env := by rfl) (hpl : (backTo pos (starEach [e2] X.env)).any (·.1) = false := by rfl) :
    PXI X C E (.Tuple elts kk tpos) (.Call (.Name "zip" p) [e, e2] [] pos) (i_zip ms) := by
  obtain ⟨ta, pa, sa⟩ := h
  refine ⟨_, RZ.pi_zipA hg hm pa hs hpl, fun W σ H ρ M R ok sl p => ?_⟩
  refine sa W σ H ρ M _ ok sl (post_bind p fun a M1 W1 H1 x l1 ok1 ra p1 => ?_)
  unfold zipI at p1
  split at p1
  · rename_i _ ds es
    obtain ⟨y, z, rfl, r1, r2⟩ := ra.two
    cases (show Rep C W1.B y (.lst ds) from r1) with
    | lst h1 h2 =>
      cases (show Rep C W1.B z (.lst es) from r2) with
      | lst h3 h4 =>
        rw [← hK]
        exact ⟨_, _, _, _, rfl, .inl ⟨SqL.of (ok1.sub _ _ h1), SqL.of (ok1.sub _ _ h3), post_ok p1 ok1 (walks_zip h1 h2 h3 h4)⟩⟩
  · rename_i _ ds es
    obtain ⟨y, z, rfl, r1, r2⟩ := ra.two
    cases (show Rep C W1.B y (.tup ds) from r1) with
    | tup h1 h2 =>
      cases (show Rep C W1.B z (.tup es) from r2) with
      | tup h3 h4 =>
        rw [← hK]
        exact ⟨_, _, _, _, rfl, .inr ⟨sqT_sub ok1.sub h1, sqT_sub ok1.sub h3, post_ok p1 ok1 (walks_zipT h1 h2 h3 h4)⟩⟩
  · exact p1.elim
def SemG (C : Cf) (ts : List Nat) (g : TG) (mg : VD → Env → Option Env) : Prop := ∀ W σ H ρ M x v Q, Ok C W H M → Slots C W σ ρ → RepV C W x v →
  (match mg v ρ with
    | some ρ' => ∀ σ', Slots C W σ' ρ' → (∀ vs : List Nat, (∀ j ∈ ts, j ∈ vs) → wipe σ' vs = wipe σ vs) → Q σ' H
    | none => False) → g x σ H Q
def SemGs (C : Cf) (ts : List Nat) (g : TGs) (mg : List VD → Env → Option Env) : Prop := ∀ W σ H ρ M xs vs Q, Ok C W H M → Slots C W σ ρ → RepVA C W xs vs →
  (match mg vs ρ with
    | some ρ' => ∀ σ', Slots C W σ' ρ' → (∀ vs : List Nat, (∀ j ∈ ts, j ∈ vs) → wipe σ' vs = wipe σ vs) → Q σ' H
    | none => False) → g xs σ H Q
structure PXG (X : Cx) (C : Cf) (ts : List Nat) (tg : Expr) (mg : VD → Env → Option Env) : Prop where
  ex : ∃ g, PG X tg g ∧ SemG C ts g mg
structure PXGs (X : Cx) (C : Cf) (ts : List Nat) (tgs : List Expr) (mg : List VD → Env → Option Env) : Prop where
  ex : ∃ g, PGs X tgs g ∧ SemGs C ts g mg
theorem wipe_set_in {σ : L2.St} {i : Nat} {o : Option V} : ∀ {vs : List Nat}, i ∈ vs → wipe (σ.set i o) vs = wipe σ vs
  | [], h => by simp at h
  | v :: vs, h => by
    unfold wipe
    by_cases e : i ∈ vs
    · rw [wipe_set_in e]
    · have e2 : i = v := by simpa [e] using h
      subst e2
      have q : ∀ {us : List Nat}, i ∉ us → wipe (σ.set i o) us = (wipe σ us).set i o := fun {us} => by
        induction us with
        | nil => intro _; rfl
        | cons u us ih =>
          intro h
          simp only [List.mem_cons, not_or] at h
          unfold wipe
          rw [ih h.2, List.set_comm _ _ h.1]
      rw [q e, List.set_set]
theorem wipe_idem {σ : L2.St} : ∀ {vs us : List Nat}, (∀ j ∈ vs, j ∈ us) → wipe (wipe σ vs) us = wipe σ us
  | [], _, _ => rfl
  | v :: vs, us, h => by
    show wipe ((wipe σ vs).set v none) us = _
    rw [wipe_set_in (h v List.mem_cons_self)]
    exact wipe_idem fun j hj => h j (List.mem_cons_of_mem _ hj)
def g_name (i : Nat) : VD → Env → Option Env := fun v ρ => some (ρ.set i (some v))
theorem xg_name {i : Nat} {x : Str} {pos : Pos} (hN : X.N.Nodup) (hi : X.N[i]? = some x := by rfl) (hx : Loc X.env.scope x := by first | exact Or.inl rfl | exact Or.inr rfl) (hf : X.fn x = true ∨ X.env.scope.names.lookup x = some .local := by first | exact .inl rfl | exact .inr rfl) : PXG X C [i] (.Name x pos) (g_name i) :=
  ⟨_, pg_name hN hi hx hf, fun W σ H ρ M x v Q ok sl r h => h _ (sl.set r) fun vs hv => wipe_set_in (hv i (by simp))⟩
def g_nil : List VD → Env → Option Env
  | [], ρ => some ρ
  | _, _ => none
def g_cons (g : VD → Env → Option Env) (gs : List VD → Env → Option Env) : List VD → Env → Option Env
  | v :: vs, ρ => (g v ρ).bind (gs vs)
  | [], _ => none
theorem xgs_nil : PXGs X C [] [] g_nil := ⟨_, pgs_nil, fun W σ H ρ M xs vs Q ok sl r h => by
  cases r with
  | nil => exact ⟨rfl, h σ sl fun _ _ => rfl⟩
  | cons _ _ => exact h.elim⟩
theorem xgs_cons {ts us : List Nat} {e : Expr} {es : List Expr} {g gs} (h1 : PXG X C ts e g) (h2 : PXGs X C us es gs) (hs : (assignEach (e :: es) X.env).map (·.2) = assign e X.env :: (assignEach es X.env).map (·.2) := by rfl) : PXGs X C (ts ++ us) (e :: es) (g_cons g gs) := by
  obtain ⟨t, p1, s1⟩ := h1
  obtain ⟨u, p2, s2⟩ := h2
  refine ⟨_, pgs_cons p1 p2 hs, fun W σ H ρ M xs vs Q ok sl r h => ?_⟩
  cases r with
  | nil => exact h.elim
  | @cons x xs v vs rv rr =>
    refine ⟨_, _, rfl, s1 W σ H ρ M x v _ ok sl rv ?_⟩
    cases q : g v ρ with
    | none =>
      rw [show g_cons g gs (v :: vs) ρ = none by simp [g_cons, q]] at h
      exact h.elim
    | some ρ1 =>
      intro σ1 sl1 w1
      rw [show g_cons g gs (v :: vs) ρ = gs vs ρ1 by simp [g_cons, q]] at h
      refine s2 W σ1 H ρ1 M xs vs _ ok sl1 rr ?_
      cases q2 : gs vs ρ1 with
      | none =>
        rw [q2] at h
        exact h.elim
      | some ρ2 =>
        rw [q2] at h
        intro σ2 sl2 w2
        refine h σ2 sl2 fun vs hv => ?_
        rw [w2 vs fun j hj => hv j (List.mem_append_right _ hj), w1 vs fun j hj => hv j (List.mem_append_left _ hj)]
def g_tup (n : Nat) (gs : List VD → Env → Option Env) : VD → Env → Option Env
  | .d (.tup ds), ρ => if ds.length = n then gs (ds.map .d) ρ else none
  | _, _ => none
theorem RepA.vd {W : Wd} : ∀ {vs : List V} {ds : List D}, RepA C W.B vs ds → RepVA C W vs (ds.map .d)
  | _, _, .nil => .nil
  | _, _, .cons h r => .cons h (RepA.vd r)
theorem xg_tup {ts : List Nat} {es : List Expr} {kk n : Nat} {gs} {pos : Pos} (c : Cxx X C E CX k) (h : PXGs X C ts es gs) (hn : (assignEach es X.env).length = n := by rfl) (hst : (assignEach es X.env).findIdx? (·.1) = none := by rfl) : PXG X C ts (.Tuple es kk pos) (g_tup n gs) := by
  obtain ⟨t, p, s⟩ := h
  refine ⟨_, pg_tup (n := n) c.calm p hn hst, fun W σ H ρ M x v Q ok sl r h => ?_⟩
  cases q : g_tup n gs v ρ with
  | none =>
    rw [q] at h
    exact h.elim
  | some ρ' =>
    rw [q] at h
    unfold g_tup at q
    split at q
    · rename_i _ ds
      split at q
      · rename_i hl
        cases (show Rep C W.B x (.tup ds) from r) with
        | tup h1 h2 =>
          refine ⟨_, _, rfl, by rw [← c.K]; exact sqT_sub ok.sub h1, by rw [h2.length]; exact hl, s W σ H _ M _ _ Q ok sl (RepA.vd h2) (by rw [q]; exact h)⟩
      · cases q
    · cases q
end
end G
namespace G
open PySem PySem.Spec PyProof.Rows L2
section
variable {X : Cx} {C : Cf} {E : XK} {CX : CXT} {k : Nat}
def wipeE (ρ : Env) : List Nat → Env
  | [] => ρ
  | v :: vs => (wipeE ρ vs).set v none
theorem Slots.wipe {W : Wd} {σ : L2.St} {ρ : Env} (h : Slots C W σ ρ) : ∀ vs : List Nat, Slots C W (L2.wipe σ vs) (wipeE ρ vs)
  | [] => h
  | v :: vs => (Slots.wipe h vs).unset
def compL (turn : D → Mem → Res (Option D)) : List D → Mem → List D → Res (List D)
  | [], M, acc => .ok acc M
  | x :: xs, M, acc => match turn x M with
    | .ok (some d) M1 => if acc.length < lim then compL turn xs M1 (acc ++ [d]) else .fail
    | .ok none M1 => compL turn xs M1 acc
    | _ => .fail
def cTurn (vs : List Nat) (mg : VD → Env → Option Env) (mt : Mx Bool) (me : Mx VD) (ρ : Env) (d : D) (M : Mem) : Res (Option D) := match mg (.d d) (wipeE ρ vs) with
  | none => .fail
  | some ρ2 => match mt ρ2 M with
    | .ok true M2 => match me ρ2 M2 with
      | .ok (.d x) M3 => .ok (some x) M3
      | _ => .fail
    | .ok false M2 => .ok none M2
    | _ => .fail
def e_comp (vs : List Nat) (mi : Mx (List D)) (mg : VD → Env → Option Env) (mt : Mx Bool) (me : Mx VD) : Mx VD := fun ρ M => (mi ρ M).bind fun items M1 => (compL (cTurn vs mg mt me ρ) items M1 []).bind fun ds M2 => .ok (.d (.lst ds)) M2
def e_yes : Mx Bool := fun _ M => .ok true M
theorem cTurn_none {vs mg mt me} {ρ : Env} {d : D} {M M' : Mem} (h : cTurn vs mg mt me ρ d M = .ok none M') : ∃ ρ2, mg (.d d) (wipeE ρ vs) = some ρ2 ∧ mt ρ2 M = .ok false M' := by
  unfold cTurn at h
  split at h
  · cases h
  · rename_i ρ2 e
    refine ⟨ρ2, e, ?_⟩
    split at h
    · split at h <;> cases h
    · rename_i e2
      cases h
      exact e2
    · cases h
theorem cTurn_some {vs mg mt me} {ρ : Env} {d z : D} {M M' : Mem} (h : cTurn vs mg mt me ρ d M = .ok (some z) M') : ∃ ρ2 M2, mg (.d d) (wipeE ρ vs) = some ρ2 ∧ mt ρ2 M = .ok true M2 ∧ me ρ2 M2 = .ok (.d z) M' := by
  unfold cTurn at h
  split at h
  · cases h
  · rename_i ρ2 e
    split at h
    · rename_i M2 e2
      refine ⟨ρ2, M2, e, e2, ?_⟩
      split at h
      · rename_i e3
        cases h
        exact e3
      · cases h
    · cases h
    · cases h
theorem sem_comp {wi : TI} {g : TG} {tt : TT} {te : TE} {vs ts : List Nat} {mi mg mt me} (hts : ∀ j ∈ ts, j ∈ vs) (si : SemI C E wi mi) (sg : SemG C ts g mg) (st : SemT C E0 tt mt) (se : Sem C E0 te me) : Sem C E (tLc wi g tt te vs) (e_comp vs mi mg mt me) := fun W σ H ρ M Q ok sl p => by
  refine si W σ H ρ M _ ok sl (post_bind p fun items M1 W1 H1 J l1 ok1 wk p1 => ?_)
  intro A hA
  -- the state between the turns
  refine ⟨fun i m H2 => m = items.length - i ∧ i ≤ items.length ∧ ∃ (W2 : Wd) (M2 : Mem) (vacc : List V) (acc : List D), Step W1 H1 W2 H2 ∧ Ok C W2 H2 M2 ∧ H2 A = some (.lst vacc) ∧ W2.B A = none ∧ (∀ j : Nat, W2.al[j]? ≠ some A) ∧ RepA C W2.B vacc acc ∧
    post C (relV C) E Q W1 H1 ((compL (cTurn vs mg mt me ρ) (items.drop i) M2 acc).bind fun ds M2 => .ok (.d (.lst ds)) M2), ?_, ?_⟩
  · refine ⟨_, rfl, Nat.zero_le _, W1, M1, [], [], Step.grow hA, ok1.grow (same_upd hA), upd_same, ok1.notB hA, fun j e => ok1.ne hA e rfl, .nil, ?_⟩
    rw [List.drop_zero]
    exact p1
  · rintro i m H2 ⟨rfl, hi, W2, M2, vacc, acc, s2, ok2, hD, hB, hal, racc, p2⟩
    by_cases hlt : i < items.length
    · refine .inr ⟨wk.go i W2 H2 M2 s2.le ok2 hlt, fun H' => ∃ m', m' < items.length - i ∧ (m' = items.length - (i + 1) ∧ i + 1 ≤ items.length ∧ ∃ (W2 : Wd) (M2 : Mem) (vacc : List V) (acc : List D), Step W1 H1 W2 H' ∧ Ok C W2 H' M2 ∧ H' A = some (.lst vacc) ∧ W2.B A = none ∧ (∀ j : Nat, W2.al[j]? ≠ some A) ∧ RepA C W2.B vacc acc ∧
        post C (relV C) E Q W1 H1 ((compL (cTurn vs mg mt me ρ) (items.drop (i + 1)) M2 acc).bind fun ds M2 => .ok (.d (.lst ds)) M2)), fun H' h => h, fun x H3 y => ?_⟩
      obtain ⟨W3, d, hd, s3, ok3, rx⟩ := wk.yld i W2 H2 M2 x H3 s2.le ok2 hlt y
      obtain ⟨hD3, hB3, hal3⟩ := s3.fr A _ hD hB hal nt_lst
      have e : items.drop i = d :: items.drop (i + 1) := by
        rw [List.drop_eq_getElem_cons hlt]
        have := (List.getElem?_eq_some_iff.mp hd).2
        rw [this]
      rw [e] at p2
      simp only [compL] at p2
      have sl3 := ((sl.mono l1.le).mono s2.le).mono s3.le
      refine sg W3 (L2.wipe σ vs) H3 (wipeE ρ vs) M2 x (.d d) _ ok3 (sl3.wipe vs) rx ?_
      cases q0 : cTurn vs mg mt me ρ d M2 with
      | fail =>
        rw [q0] at p2
        exact p2.elim
      | exc _ _ _ =>
        rw [q0] at p2
        exact p2.elim
      | ok o M5 =>
        rw [q0] at p2
        cases o with
        | none =>
          obtain ⟨ρ2, q, q2⟩ := cTurn_none q0
          rw [q]
          intro σ2 sl4 w4
          refine ⟨by rw [w4 vs hts, wipe_idem fun j h => h], ?_⟩
          refine st W3 σ2 H3 ρ2 M2 _ ok3 sl4 ?_
          rw [q2]
          intro W4 H4 b' s4 ok4 eb
          obtain ⟨hD4, hB4, hal4⟩ := s4.fr A _ hD3 hB3 hal3 nt_lst
          cases eb
          show ∃ m', _
          exact ⟨_, by omega, rfl, hlt, W4, M5, vacc, acc, (s2.trans s3).trans s4, ok4, hD4, hB4, hal4, (racc.mono s3.le.1).mono s4.le.1, p2⟩
        | some z =>
          obtain ⟨ρ2, M4, q, q2, q3⟩ := cTurn_some q0
          rw [q]
          intro σ2 sl4 w4
          refine ⟨by rw [w4 vs hts, wipe_idem fun j h => h], ?_⟩
          refine st W3 σ2 H3 ρ2 M2 _ ok3 sl4 ?_
          rw [q2]
          intro W4 H4 b' s4 ok4 eb
          obtain ⟨hD4, hB4, hal4⟩ := s4.fr A _ hD3 hB3 hal3 nt_lst
          cases eb
          show te σ2 H4 _
          refine se W4 σ2 H4 ρ2 M4 _ ok4 (sl4.mono s4.le) ?_
          rw [q3]
          intro W5 H5 y5 s5 ok5 r5
          obtain ⟨hD5, hB5, hal5⟩ := s5.fr A _ hD4 hB4 hal4 nt_lst
          have p2 : post C (relV C) E Q W1 H1 ((if acc.length < lim then compL (cTurn vs mg mt me ρ) (items.drop (i + 1)) M5 (acc ++ [z]) else Res.fail).bind fun ds M2 => .ok (.d (.lst ds)) M2) := p2
          split at p2
          · rename_i hl
            have racc5 : RepA C W5.B vacc acc := ((racc.mono s3.le.1).mono s4.le.1).mono s5.le.1
            refine ⟨vacc, hD5, by rw [racc.length]; exact lim_lt hl, _, by omega, rfl, hlt, W5, M5, vacc ++ [y5], acc ++ [z], ?_, ?_, upd_same, hB5, hal5, racc5.append (.cons r5 .nil), p2⟩
            · have sx := (((s2.trans s3).trans s4).trans s5)
              refine ⟨sx.le, fun a o h1 h2 h3 h4 => ?_⟩
              obtain ⟨q1, q2, q3⟩ := sx.fr a o h1 h2 h3 h4
              exact ⟨by rw [upd_ne (ne_of_none h1 hA)]; exact q1, q2, q3⟩
            · refine ⟨fun b u e => ?_, ok5.nd, ok5.len, fun j b n e1 e2 => ?_, tabs_write ok5.tab hD5 plain_lst, ok5.tbB, ok5.low⟩
              · rw [upd_ne (ne_of_none e hB5)]
                exact ok5.sub b u e
              · have ne : b ≠ A := fun q => hal5 j (by rw [← q]; exact e1)
                have q := ok5.mo j b n e1 e2
                cases n with
                | dead => exact q
                | lst ds =>
                  obtain ⟨q1, vs, q2, q3⟩ := q
                  exact ⟨q1, vs, by rw [upd_ne ne]; exact q2, q3⟩
                | ins c fs =>
                  obtain ⟨q1, dx, vs, q2, q3⟩ := q
                  exact ⟨q1, dx, vs, by rw [upd_ne ne]; exact q2, q3⟩
                | lsv ds =>
                  obtain ⟨q1, vs, q2, q3⟩ := q
                  exact ⟨q1, vs, by rw [upd_ne ne]; exact q2, q3⟩
                | dck ds =>
                  obtain ⟨q1, vs, q2, q3⟩ := q
                  exact ⟨q1, vs, by rw [upd_ne ne]; exact q2, q3⟩
                | dcp ds =>
                  obtain ⟨q1, vs, q2, q3⟩ := q
                  exact ⟨q1, vs, by rw [upd_ne ne]; exact q2, q3⟩
          · exact p2.elim
    · have hi2 : i = items.length := by omega
      subst hi2
      refine .inl ⟨wk.stop _ W2 H2 M2 s2.le ok2 (Nat.le_refl _), ?_⟩
      rw [List.drop_length] at p2
      have p2 : post C (relV C) E Q W1 H1 (.ok (.d (.lst acc)) M2) := p2
      obtain ⟨ok6, l6⟩ := ok2.know hD hB hal (tab_nlst ok2.tab hD)
      exact p2 _ H2 _ (s2.put hA hB) ok6 (Rep.lst (by show upd W2.B A _ A = _; rw [upd_same]) (racc.mono l6.1))
structure PXTs (X : Cx) (C : Cf) (E : XK) (ifs : List Expr) (m : Mx Bool) : Prop where
  ex : ∃ tt, PTs X ifs tt ∧ SemT C E tt m
theorem xts_nil : PXTs X C E [] e_yes := ⟨_, pts_nil, fun W σ H ρ M Q ok sl p => post_ok p ok rfl⟩
theorem xts_one {c : Expr} {m : Mx Bool} (h : PXT X C E c m) : PXTs X C E [c] m := by
  obtain ⟨t, p, s⟩ := h
  exact ⟨_, pts_one p, s⟩
def teOf (C : Cf) (E : XK) (m : Mx VD) : TE := fun σ H Q => ∃ W ρ M, Ok C W H M ∧ Slots C W σ ρ ∧ post C (relV C) E Q W H (m ρ M)
def ttOf (C : Cf) (E : XK) (m : Mx Bool) : TT := fun σ H Q => ∃ W ρ M, Ok C W H M ∧ Slots C W σ ρ ∧ post C relB E Q W H (m ρ M)
def tgOf (C : Cf) (ts : List Nat) (mg : VD → Env → Option Env) : TG := fun x σ H Q => ∃ W ρ M v, Ok C W H M ∧ Slots C W σ ρ ∧ RepV C W x v ∧ (match mg v ρ with
    | some ρ' => ∀ σ', Slots C W σ' ρ' → (∀ vs : List Nat, (∀ j ∈ ts, j ∈ vs) → wipe σ' vs = wipe σ vs) → Q σ' H
    | none => False)
theorem PX.pe {e : Expr} {m : Mx VD} (h : PX X C E e m) : PE X e (teOf C E m) := by
  obtain ⟨te, p, s⟩ := h
  exact ⟨fun pins s1 σ H Q I ⟨W, ρ, M, ok, sl, q⟩ => p.run pins s1 σ H Q I (s W σ H ρ M Q ok sl q)⟩
theorem PXTs.pts {es : List Expr} {m : Mx Bool} (h : PXTs X C E es m) : PTs X es (ttOf C E m) := by
  obtain ⟨te, p, s⟩ := h
  exact ⟨fun pins s1 σ H Q I ⟨W, ρ, M, ok, sl, q⟩ => p.run pins s1 σ H Q I (s W σ H ρ M Q ok sl q)⟩
theorem PXG.pg {e : Expr} {ts : List Nat} {mg} (h : PXG X C ts e mg) : PG X e (tgOf C ts mg) := by
  obtain ⟨g, p, s⟩ := h
  exact ⟨fun pins s1 σ H x u Q I r ⟨W, ρ, M, v, ok, sl, rv, q⟩ => p.run pins s1 σ H x u Q I r (s W σ H ρ M x v Q ok sl rv q)⟩
theorem sem_te (m : Mx VD) : Sem C E (teOf C E m) m := fun W σ H ρ M Q ok sl p => ⟨W, ρ, M, ok, sl, p⟩
theorem sem_tt (m : Mx Bool) : SemT C E (ttOf C E m) m := fun W σ H ρ M Q ok sl p => ⟨W, ρ, M, ok, sl, p⟩
theorem sem_tg (ts : List Nat) (mg) : SemG C ts (tgOf C ts mg) mg := fun W σ H ρ M x v Q ok sl r p => ⟨W, ρ, M, v, ok, sl, r, p⟩
/-- the context of a comprehension's block -/
theorem Cxx.blk (c : Cxx X C E CX k) (s : Shared) (H : Hp) (scope : Scope) (env : PySem.Env) (fp : List Addr) : Cxx (X.blk s H scope env fp) C E0 CX k :=
  ⟨c.K, c.calm, c.nd, PassesOwn.never, c.pas0 _ rfl rfl, c.pas0, c.hr, LamX.takes0⟩
theorem x_comp {elt tg iter : Expr} {ifs : List Expr} {scope : Scope} {own : List (Str × Nat)} {pos : Pos} {ts : List Nat} {mi : Mx (List D)} {mg mt me} (c : Cxx X C E CX k) (hi : PXI X C E tg iter mi) (ok : BlkOk X.N X.env.scope scope own)
    (hg : ∀ (s : Shared) (H : Hp) (A : Addr) (cl : List (Str × Addr)) (fp : List Addr), Cxx (X.blk s H scope (compEnvC scope cl A X.env) fp) C E0 CX k → PXG (X.blk s H scope (compEnvC scope cl A X.env) fp) C ts tg mg)
    (ht : ∀ (s : Shared) (H : Hp) (A : Addr) (cl : List (Str × Addr)) (fp : List Addr), Cxx (X.blk s H scope (compEnvC scope cl A X.env) fp) C E0 CX k → PXTs (X.blk s H scope (compEnvC scope cl A X.env) fp) C E0 ifs mt)
    (he : ∀ (s : Shared) (H : Hp) (A : Addr) (cl : List (Str × Addr)) (fp : List Addr), Cxx (X.blk s H scope (compEnvC scope cl A X.env) fp) C E0 CX k → PX (X.blk s H scope (compEnvC scope cl A X.env) fp) C E0 elt me)
    (hts : ∀ j ∈ ts, j ∈ own.map (·.2) := by decide) (hs : ∀ x, foldedSetIterable iter X.env x = pure x := by intro _; rfl) : PX X C E (.ListComp elt [⟨tg, iter, ifs, 0⟩] scope pos) (e_comp (own.map (·.2)) mi mg mt me) := by
  obtain ⟨wi, pi, si⟩ := hi
  exact ⟨_, pe_lc c.calm c.nd pi ok (fun s H A cl fp => (hg s H A cl fp (c.blk s H scope _ fp)).pg) (fun s H A cl fp => (ht s H A cl fp (c.blk s H scope _ fp)).pts) (fun s H A cl fp => (he s H A cl fp (c.blk s H scope _ fp)).pe) hs,
    sem_comp hts si (sem_tg ts mg) (sem_tt mt) (sem_te me)⟩
inductive Out where
  | nx (ρ : Env) (M : Mem) | ret (v : VD) (M : Mem) | brk (ρ : Env) (M : Mem) | ct (ρ : Env) (M : Mem) | exc (c : Nat) (fs : List D) (M : Mem) | fail
def Out.seq (o : Out) (k : Env → Mem → Out) : Out := match o with
  | .nx ρ M => k ρ M
  | o => o
def Res.out {α : Type} (r : Res α) (k : α → Mem → Out) : Out := match r with
  | .ok v M => k v M
  | .exc c fs M => .exc c fs M
  | .fail => .fail
def postS (C : Cf) (E : XK) (D : Ends) (W : Wd) (H : Hp) (o : Out) : Prop := match o with
  | .nx ρ' M' => ∀ W' H' σ', Step W H W' H' → Ok C W' H' M' → Slots C W' σ' ρ' → D.nx σ' H'
  | .brk ρ' M' => ∀ W' H' σ', Step W H W' H' → Ok C W' H' M' → Slots C W' σ' ρ' → D.bk σ' H'
  | .ct ρ' M' => ∀ W' H' σ', Step W H W' H' → Ok C W' H' M' → Slots C W' σ' ρ' → D.ct σ' H'
  | .ret v M' => ∀ W' H' x, Step W H W' H' → Ok C W' H' M' → RepV C W' x v → D.rt x H'
  | .exc c fs M' => ePost C E W H c fs M'
  | .fail => False
abbrev Sx := Env → Mem → Out
def SemS (C : Cf) (E : XK) (ts : TS) (m : Sx) : Prop := ∀ W σ H ρ M D, Ok C W H M → Slots C W σ ρ → postS C E D W H (m ρ M) → ts D σ H
structure PXS (X : Cx) (C : Cf) (E : XK) (st : Stmt) (m : Sx) : Prop where
  ex : ∃ ts, PS X st ts ∧ SemS C E ts m
structure PXSs (X : Cx) (C : Cf) (E : XK) (st : List Stmt) (m : Sx) : Prop where
  ex : ∃ ts, PSs X st ts ∧ SemS C E ts m
theorem postS.mono {D : Ends} {W W' : Wd} {H H' : Hp} {o : Out} (l : Step W H W' H') (h : postS C E D W H o) : postS C E D W' H' o := by
  cases o with
  | nx ρ M => exact fun W2 H2 x l2 => h W2 H2 x (l.trans l2)
  | brk ρ M => exact fun W2 H2 x l2 => h W2 H2 x (l.trans l2)
  | ct ρ M => exact fun W2 H2 x l2 => h W2 H2 x (l.trans l2)
  | ret v M => exact fun W2 H2 x l2 => h W2 H2 x (l.trans l2)
  | exc c fs M => exact ePost.mono l h
  | fail => exact h
theorem post_out {α β : Type} {rel : Wd → β → α → Prop} {Q : β → Hp → Prop} {D : Ends} {W : Wd} {H : Hp} {r : Res α} {f : α → Mem → Out} (h : postS C E D W H (r.out f)) (hk : ∀ a M1 W1 H1 x, Step W H W1 H1 → Ok C W1 H1 M1 → rel W1 x a → postS C E D W1 H1 (f a M1) → Q x H1) : post C rel E Q W H r := by
  cases r with
  | ok v M => exact fun W1 H1 x l ok1 ra => hk v M W1 H1 x l ok1 ra (postS.mono l h)
  | exc c fs M => exact h
  | fail => exact h
theorem postS_nx {D : Ends} {W : Wd} {H : Hp} {ρ : Env} {M : Mem} {σ : L2.St} (p : postS C E D W H (.nx ρ M)) (ok : Ok C W H M) (sl : Slots C W σ ρ) : D.nx σ H := p W H σ (Step.refl _ _) ok sl
def s_skip : Sx := fun ρ M => .nx ρ M
def s_seq (a b : Sx) : Sx := fun ρ M => (a ρ M).seq b
theorem xss_nil : PXSs X C E [] s_skip := ⟨_, pss_nil, fun W σ H ρ M D ok sl p => postS_nx p ok sl⟩
theorem xss_one {st : Stmt} {m : Sx} (h : PXS X C E st m) : PXSs X C E [st] m := by
  obtain ⟨t, p, s⟩ := h
  exact ⟨_, pss_one p, s⟩
theorem sem_seq {t u : TS} {a b : Sx} (h1 : SemS C E t a) (h2 : SemS C E u b) : SemS C E (tSeq t u) (s_seq a b) := fun W σ H ρ M D ok sl p => by
  refine h1 W σ H ρ M _ ok sl ?_
  unfold s_seq at p
  cases q : a ρ M with
  | nx ρ1 M1 =>
    rw [q] at p
    exact fun W1 H1 σ1 l1 ok1 sl1 => h2 W1 σ1 H1 ρ1 M1 D ok1 sl1 (postS.mono l1 p)
  | brk _ _ => rw [q] at p; exact p
  | ct _ _ => rw [q] at p; exact p
  | ret _ _ => rw [q] at p; exact p
  | exc _ _ _ => rw [q] at p; exact p
  | fail => rw [q] at p; exact p
theorem xss_cons {st : Stmt} {rest : List Stmt} {a b : Sx} (h1 : PXS X C E st a) (h2 : PXSs X C E rest b) : PXSs X C E (st :: rest) (s_seq a b) := by
  obtain ⟨t, p1, s1⟩ := h1
  obtain ⟨u, p2, s2⟩ := h2
  exact ⟨_, pss_cons p1 p2, sem_seq s1 s2⟩
def s_fail : Sx := fun _ _ => .fail
theorem xs_never {st : Stmt} : PXS X C E st s_fail := ⟨_, ps_never, fun W σ H ρ M D ok sl p => p.elim⟩
def s_expr (m : Mx VD) : Sx := fun ρ M => (m ρ M).out fun _ M1 => .nx ρ M1
theorem xs_expr {e : Expr} {m : Mx VD} {pos : Pos} (h : PX X C E e m) (hs : swapsWith e none pos.line X.env = pure false := by rfl) : PXS X C E (.Expr e pos) (s_expr m) := by
  obtain ⟨t, p, s⟩ := h
  refine ⟨_, ps_expr p hs, fun W σ H ρ M D ok sl q => ?_⟩
  exact s W σ H ρ M _ ok sl (post_out q fun a M1 W1 H1 x l1 ok1 ra p1 => postS_nx p1 ok1 (sl.mono l1.le))
def s_ret (m : Mx VD) : Sx := fun ρ M => (m ρ M).out fun v M1 => .ret v M1
theorem xs_ret {e : Expr} {m : Mx VD} {pos : Pos} (h : PX X C E e m) : PXS X C E (.Return (some e) pos) (s_ret m) := by
  obtain ⟨t, p, s⟩ := h
  refine ⟨_, ps_ret p, fun W σ H ρ M D ok sl q => ?_⟩
  exact s W σ H ρ M _ ok sl (post_out q fun a M1 W1 H1 x l1 ok1 ra p1 => p1 W1 H1 x (Step.refl _ _) ok1 ra)
def s_retN : Sx := fun _ M => .ret (.d .non) M
def s_if (t : Mx Bool) (a b : Sx) : Sx := fun ρ M => (t ρ M).out fun c M1 => if c then a ρ M1 else b ρ M1
theorem xs_if {c : Expr} {a b : List Stmt} {mt : Mx Bool} {ma mb : Sx} {pos : Pos} (hc : PXT X C E c mt) (ha : PXSs X C E a ma) (hb : PXSs X C E b mb) : PXS X C E (.If c a b pos) (s_if mt ma mb) := by
  obtain ⟨t, p, s⟩ := hc
  obtain ⟨ta, pa, sa⟩ := ha
  obtain ⟨tb, pb, sb⟩ := hb
  refine ⟨_, ps_if p pa pb, fun W σ H ρ M D ok sl q => ?_⟩
  refine s W σ H ρ M _ ok sl (post_out q fun c M1 W1 H1 x l1 ok1 ra p1 => ?_)
  cases (show x = c from ra)
  cases c with
  | true => exact sa W1 σ H1 ρ M1 D ok1 (sl.mono l1.le) p1
  | false => exact sb W1 σ H1 ρ M1 D ok1 (sl.mono l1.le) p1
def s_asg (m : Mx VD) (mg : VD → Env → Option Env) : Sx := fun ρ M => (m ρ M).out fun v M1 => match mg v ρ with
  | some ρ' => .nx ρ' M1
  | none => .fail
theorem sem_asg {te : TE} {g : TG} {ts : List Nat} {m mg} (h : Sem C E te m) (hg : SemG C ts g mg) : SemS C E (tAsg te g) (s_asg m mg) := fun W σ H ρ M D ok sl q => by
  refine h W σ H ρ M _ ok sl (post_out q fun v M1 W1 H1 x l1 ok1 ra p1 => ?_)
  refine hg W1 σ H1 ρ M1 x v _ ok1 (sl.mono l1.le) ra ?_
  cases e : mg v ρ with
  | none =>
    rw [e] at p1
    exact p1.elim
  | some ρ' =>
    rw [e] at p1
    exact fun σ' sl' _ => postS_nx p1 ok1 sl'
theorem xs_set {i : Nat} {x : Str} {e : Expr} {m : Mx VD} {p' pos : Pos} (c : Cxx X C E CX k) (h : PX X C E e m) (hi : X.N[i]? = some x := by rfl) (hx : Loc X.env.scope x := by first | exact Or.inl rfl | exact Or.inr rfl) (hs : swapsWith e (some (.Name x p')) pos.line X.env = pure false := by rfl)
    (hf : X.fn x = true ∨ X.env.scope.names.lookup x = some .local := by first | exact .inl rfl | exact .inr rfl) : PXS X C E (.Assign [.Name x p'] e pos) (s_asg m (g_name i)) := by
  obtain ⟨t, p, s⟩ := h
  obtain ⟨g, pg, sg⟩ := xg_name (C := C) (pos := p') c.nd hi hx hf
  exact ⟨_, ps_set c.nd hi hx p hs hf, sem_asg (ts := [i]) s fun W σ H ρ M x v Q ok sl r h => h _ (sl.set r) fun vs hv => wipe_set_in (hv i (by simp))⟩
theorem xs_asg {tg e : Expr} {ts : List Nat} {m : Mx VD} {mg} {pos : Pos} (h : PX X C E e m) (hg : PXG X C ts tg mg) (hs : swapsWithSole [tg] e pos.line X.env = pure false := by rfl) (hw : swappedStores [tg] e X.env = pure none := by rfl) (h1 : (assignEach [tg] X.env).map (·.2) = [assign tg X.env] := by rfl) : PXS X C E (.Assign [tg] e pos) (s_asg m mg) := by
  obtain ⟨t, p, s⟩ := h
  obtain ⟨g, pg, sg⟩ := hg
  exact ⟨_, ps_asg p pg hs hw h1, sem_asg s sg⟩
theorem xs_setLc {i : Nat} {y : Str} {py spos : Pos} {elt tg iter : Expr} {ifs : List Expr} {scope : Scope} {own : List (Str × Nat)} {pos : Pos} {ts : List Nat} {mi : Mx (List D)} {mg mt me} (c : Cxx X C E CX k) (hi : PXI X C E tg iter mi) (ok : BlkOk X.N X.env.scope scope own)
    (hg : ∀ (s : Shared) (H : Hp) (A : Addr) (cl : List (Str × Addr)) (fp : List Addr), Cxx (X.blk s H scope (compEnvC scope cl A X.env) fp) C E0 CX k → PXG (X.blk s H scope (compEnvC scope cl A X.env) fp) C ts tg mg)
    (ht : ∀ (s : Shared) (H : Hp) (A : Addr) (cl : List (Str × Addr)) (fp : List Addr), Cxx (X.blk s H scope (compEnvC scope cl A X.env) fp) C E0 CX k → PXTs (X.blk s H scope (compEnvC scope cl A X.env) fp) C E0 ifs mt)
    (he : ∀ (s : Shared) (H : Hp) (A : Addr) (cl : List (Str × Addr)) (fp : List Addr), Cxx (X.blk s H scope (compEnvC scope cl A X.env) fp) C E0 CX k → PX (X.blk s H scope (compEnvC scope cl A X.env) fp) C E0 elt me)
    (hy : X.N[i]? = some y := by rfl) (hyl : X.env.scope.names.lookup y = some .local := by rfl) (hsw : swapsWith (.ListComp elt [⟨tg, iter, ifs, 0⟩] scope pos) (some (.Name y py)) spos.line X.env = pure true := by exact sw_true rfl rfl rfl (by decide +kernel))
    (hts : ∀ j ∈ ts, j ∈ own.map (·.2) := by decide) (hs : ∀ x, foldedSetIterable iter X.env x = pure x := by intro _; rfl) : PXS X C E (.Assign [.Name y py] (.ListComp elt [⟨tg, iter, ifs, 0⟩] scope pos) spos) (s_asg (e_comp (own.map (·.2)) mi mg mt me) (g_name i)) := by
  obtain ⟨wi, pi, si⟩ := hi
  exact ⟨_, ps_setLc c.calm c.nd hy hyl hsw pi ok (fun s H A cl fp => (hg s H A cl fp (c.blk s H scope _ fp)).pg) (fun s H A cl fp => (ht s H A cl fp (c.blk s H scope _ fp)).pts) (fun s H A cl fp => (he s H A cl fp (c.blk s H scope _ fp)).pe) hs,
    sem_asg (ts := [i]) (sem_comp hts si (sem_tg ts mg) (sem_tt mt) (sem_te me)) fun W σ H ρ M x v Q ok sl r h => h _ (sl.set r) fun vs hv => wipe_set_in (hv i (by simp))⟩
/-- a, b = e1, e2 -/
def s_par (i j : Nat) (ms : Mx (List VD)) : Sx := fun ρ M => (ms ρ M).out fun vs M1 => match vs with
  | [a, b] => .nx ((ρ.set i (some a)).set j (some b)) M1
  | _ => .fail
theorem xs_par {i j : Nat} {x y : Str} {a b : Expr} {ms : Mx (List VD)} {px py pt pos : Pos} {kt k2 pt2} (c : Cxx X C E CX k) (h : PXA X C E [a, b] ms) (hi : X.N[i]? = some x := by rfl) (hj : X.N[j]? = some y := by rfl) (hij : i ≠ j := by decide)
    (hx : X.env.scope.names.lookup x = some .local := by rfl) (hy : X.env.scope.names.lookup y = some .local := by rfl) (hw : swappedStores [.Tuple [.Name x px, .Name y py] kt pt] (.Tuple [a, b] k2 pt2) X.env = pure (some [x, y]) := by rfl)
    (hs : swapsWithSole [.Tuple [.Name x px, .Name y py] kt pt] (.Tuple [a, b] k2 pt2) pos.line X.env = pure false := by rfl) : PXS X C E (.Assign [.Tuple [.Name x px, .Name y py] kt pt] (.Tuple [a, b] k2 pt2) pos) (s_par i j ms) := by
  obtain ⟨t, p, s⟩ := h
  refine ⟨_, ps_par c.calm c.nd hi hj hij hx hy p hw hs, fun W σ H ρ M D ok sl q => ?_⟩
  refine s W σ H ρ M _ ok sl (post_out q fun vs M1 W1 H1 xs l1 ok1 ra p1 => ?_)
  split at p1
  · obtain ⟨x, y, rfl, r1, r2⟩ := RepVA.two ra
    exact ⟨x, y, rfl, postS_nx p1 ok1 (((sl.mono l1.le).set r1).set r2)⟩
  · exact p1.elim
def forL (mg : VD → Env → Option Env) (body : Sx) : List D → Env → Mem → Out
  | [], ρ, M => .nx ρ M
  | x :: xs, ρ, M => match mg (.d x) ρ with
    | none => .fail
    | some ρ1 => match body ρ1 M with
      | .nx ρ2 M2 => forL mg body xs ρ2 M2
      | .ct ρ2 M2 => forL mg body xs ρ2 M2
      | .brk ρ2 M2 => .nx ρ2 M2
      | o => o
def s_for (mi : Mx (List D)) (mg : VD → Env → Option Env) (body : Sx) : Sx := fun ρ M => (mi ρ M).out fun items M1 => forL mg body items ρ M1
theorem sem_for {wi : TI} {g : TG} {tb : TS} {ts : List Nat} {mi mg body} (si : SemI C E wi mi) (sg : SemG C ts g mg) (sb : SemS C E tb body) : SemS C E (tFor wi g tb) (s_for mi mg body) := fun W σ H ρ M D ok sl p => by
  refine si W σ H ρ M _ ok sl (post_out p fun items M1 W1 H1 J l1 ok1 wk p1 => ?_)
  have wk : Walks C J items W1 := wk
  refine ⟨fun i m σ2 H2 => m = items.length - i ∧ i ≤ items.length ∧ ∃ (W2 : Wd) (M2 : Mem) (ρ2 : Env), Le W1 W2 ∧ Ok C W2 H2 M2 ∧ Slots C W2 σ2 ρ2 ∧ postS C E D W2 H2 (forL mg body (items.drop i) ρ2 M2), ?_, ?_⟩
  · refine ⟨_, rfl, Nat.zero_le _, W1, M1, ρ, Le.refl _, ok1, sl.mono l1.le, ?_⟩
    rw [List.drop_zero]
    exact p1
  · rintro i m σ2 H2 ⟨rfl, hi, W2, M2, ρ2, l2, ok2, sl2, p2⟩
    by_cases hlt : i < items.length
    · refine .inr ⟨wk.go i W2 H2 M2 l2 ok2 hlt, _, fun σ' H' h => ⟨_, Nat.sub_lt_sub_left hlt (Nat.lt_succ_self i), rfl, hlt, h⟩, fun x H3 y => ?_⟩
      obtain ⟨W3, d, hd, s3, ok3, rx⟩ := wk.yld i W2 H2 M2 x H3 l2 ok2 hlt y
      have e : items.drop i = d :: items.drop (i + 1) := by
        rw [List.drop_eq_getElem_cons hlt]
        have := (List.getElem?_eq_some_iff.mp hd).2
        rw [this]
      rw [e] at p2
      have p2 := postS.mono s3 p2
      unfold forL at p2
      refine sg W3 σ2 H3 ρ2 M2 x (.d d) _ ok3 (sl2.mono s3.le) rx ?_
      cases q : mg (.d d) ρ2 with
      | none =>
        rw [q] at p2
        exact p2.elim
      | some ρ3 =>
        rw [q] at p2
        dsimp only at p2
        intro σ3 sl3 _
        refine sb W3 σ3 H3 ρ3 M2 _ ok3 sl3 ?_
        cases q2 : body ρ3 M2 with
        | nx ρ4 M4 =>
          rw [q2] at p2
          exact fun W4 H4 σ4 s4 ok4 sl4 => ⟨W4, M4, ρ4, (l2.trans s3.le).trans s4.le, ok4, sl4, postS.mono s4 p2⟩
        | ct ρ4 M4 =>
          rw [q2] at p2
          exact fun W4 H4 σ4 s4 ok4 sl4 => ⟨W4, M4, ρ4, (l2.trans s3.le).trans s4.le, ok4, sl4, postS.mono s4 p2⟩
        | brk ρ4 M4 =>
          rw [q2] at p2
          exact p2
        | ret _ _ => rw [q2] at p2; exact p2
        | exc _ _ _ => rw [q2] at p2; exact p2
        | fail => rw [q2] at p2; exact p2
    · have hi2 : i = items.length := by omega
      subst hi2
      refine .inl ⟨wk.stop _ W2 H2 M2 l2 ok2 (Nat.le_refl _), ?_⟩
      rw [List.drop_length] at p2
      exact postS_nx p2 ok2 sl2
theorem xs_for {tg iter : Expr} {body : List Stmt} {ts : List Nat} {mi : Mx (List D)} {mg} {mb : Sx} {pos : Pos} (c : Cxx X C E CX k) (hi : PXI X C E tg iter mi) (hg : PXG X C ts tg mg) (hb : PXSs X C E body mb) (hs : ∀ x, foldedSetIterable iter X.env x = pure x := by intro _; rfl) : PXS X C E (.For tg iter body [] pos) (s_for mi mg mb) := by
  obtain ⟨wi, pi, si⟩ := hi
  obtain ⟨g, pg, sg⟩ := hg
  obtain ⟨tb, pb, sb⟩ := hb
  exact ⟨_, ps_for c.own c.calm pi pg pb hs, sem_for si sg sb⟩
def runF (n : Nat) (body : Sx) (ds : List VD) (M : Mem) : Res VD := match body (ds.map some ++ List.replicate (n - ds.length) none) M with
  | .nx _ M1 => .ok (.d .non) M1
  | .ret v M1 => .ok v M1
  | .exc c fs M1 => .exc c fs M1
  | _ => .fail
def nox {α : Type} (r : Res α) : Res α := match r with
  | .ok v M => .ok v M
  | _ => .fail
/-- what was made on the way is let go -/
def vLt (n : Nat) : VD → Bool
  | .d _ => true
  | .adr i => decide (i < n)
def moLt (n : Nat) : MO → Bool
  | .ins _ fs => fs.all (vLt n)
  | .lsv fs => fs.all (vLt n)
  | .dck kvs => (kvs.map (·.2)).all (vLt n)
  | .dcp kvs => (kvs.map (·.2)).all (vLt n)
  | _ => true
def trim (n : Nat) (r : Res VD) : Res VD := match r with
  | .ok v M => if vLt n v && (M.take n).all (moLt n) then .ok v (M.take n) else .ok v M
  | r => r
theorem RepV.take {W : Wd} {n : Nat} {x : V} {v : VD} (h : vLt n v = true) (r : RepV C W x v) : RepV C ⟨W.B, W.al.take n⟩ x v := by
  cases v with
  | d y => exact r
  | adr i =>
    obtain ⟨a, h1, h2⟩ := r
    have hi : i < n := of_decide_eq_true h
    exact ⟨a, h1, by show (W.al.take n)[i]? = _; rw [List.getElem?_take_of_lt hi]; exact h2⟩
theorem RepVA.take {W : Wd} {n : Nat} : ∀ {xs : List V} {vs : List VD}, vs.all (vLt n) = true → RepVA C W xs vs → RepVA C ⟨W.B, W.al.take n⟩ xs vs
  | _, _, _, .nil => .nil
  | _, _, h, .cons r rr => by
    rw [List.all_cons, Bool.and_eq_true] at h
    exact .cons (r.take h.1) (RepVA.take h.2 rr)
theorem Ok.take {W W' : Wd} {H H' : Hp} {M' : Mem} {n : Nat} (st : Step W H W' H') (ok : Ok C W' H' M') (hn : W.al.length ≤ n) (hm : (M'.take n).all (moLt n) = true) : Step W H ⟨W'.B, W'.al.take n⟩ H' ∧ Ok C ⟨W'.B, W'.al.take n⟩ H' (M'.take n) := by
  refine ⟨⟨⟨st.le.1, ?_⟩, fun a o h1 h2 h3 h4 => ?_⟩, ok.sub, ?_, ?_, fun i a m e1 e2 => ?_, ok.tab, ok.tbB, ok.low⟩
  · obtain ⟨l, e⟩ := st.le.2
    refine ⟨l.take (n - W.al.length), ?_⟩
    show W'.al.take n = _
    rw [e, List.take_append, List.take_of_length_le hn]
  · obtain ⟨q1, q2, q3⟩ := st.fr a o h1 h2 h3 h4
    refine ⟨q1, q2, fun i e => ?_⟩
    have e : (W'.al.take n)[i]? = some a := e
    rw [List.getElem?_take] at e
    split at e
    · exact q3 i e
    · cases e
  · exact List.Nodup.sublist (List.take_sublist _ _) ok.nd
  · show (W'.al.take n).length = _
    rw [List.length_take, List.length_take, ok.len]
  · have hm2 : moLt n m = true := List.all_eq_true.mp hm m (List.mem_of_getElem? e2)
    have e1 : (W'.al.take n)[i]? = some a := e1
    rw [List.getElem?_take] at e1
    split at e1
    · rename_i hi
      rw [List.getElem?_take_of_lt hi] at e2
      have q := ok.mo i a m e1 e2
      cases m with
      | dead => exact q
      | lst ds => exact q
      | ins c fs =>
        obtain ⟨q1, dx, vs, q2, q3, q4⟩ := q
        exact ⟨q1, dx, vs, q2, q3, q4.take hm2⟩
      | lsv ds =>
        obtain ⟨q1, vs, q2, q4⟩ := q
        exact ⟨q1, vs, q2, q4.take hm2⟩
      | dck ds =>
        obtain ⟨q1, vs, q2, q4⟩ := q
        exact ⟨q1, vs, q2, q4.take hm2⟩
      | dcp ds =>
        obtain ⟨q1, vs, q2, q4⟩ := q
        exact ⟨q1, vs, q2, q4.take hm2⟩
    · cases e1
theorem slots_start {W : Wd} {N : List Str} {vs : List V} {ds : List VD} (r : RepVA C W vs ds) : Slots C W (L2.start N vs) (ds.map some ++ List.replicate (N.length - ds.length) none) := by
  have hl := r.length
  unfold L2.start
  refine ⟨by simp [hl], fun i d e => ?_⟩
  by_cases hi : i < ds.length
  · rw [List.getElem?_append_left (by simpa using hi), List.getElem?_map] at e
    cases q : ds[i]? with
    | none => rw [q] at e; cases e
    | some d' =>
      rw [q] at e
      cases e
      obtain ⟨v, h1, h2⟩ := r.get q
      refine ⟨v, ?_, h2⟩
      rw [List.getElem?_append_left (by simp [hl]; exact hi), List.getElem?_map, h1]
      rfl
  · rw [List.getElem?_append_right (by simpa using hi), List.getElem?_replicate] at e
    split at e <;> cases e
end
section
variable {P : Program} {w : World} {K : PySem.W.Frag} {mg : Str → Option Value} {base : Heap} {C : Cf}
/-- THE RULE for a def that lets nothing out -/
theorem fn_mk {x qual : Str} {st : Stmt} {f : Addr} {fd : FuncData} {N ps : List Str} {k n : Nat} {body : Sx} (F : Fun K x qual st f fd) (S : FnScope N ps (defScope st)) (hK : C.K = K) (hn : ps.length = n)
    (hb : ∀ (cdv : Value) (A : Around) (outer : List PySem.Env) (s : Shared) (H : Hp) (E : XK), Cxx (cxOf CX0 P w K mg base N qual (defScope st) f cdv A outer s H E).nox C E0 CX0 k → PXSs (cxOf CX0 P w K mg base N qual (defScope st) f cdv A outer s H E).nox C E0 (defBody st) body) :
    FnOk P w K mg base CX0 (k + 1) f fd ps (spD C n fun ds M => trim M.length (nox (runF N.length body ds M))) := by
  refine F.ok S (fun vs H Q E h => ?_) (fun cdv A outer s H vs Q E hr h => ?_)
  · rw [spD_len vs H Q E h, hn]
  · obtain ⟨W, M, ds, ok, r, hl, p⟩ := h
    obtain ⟨t, pt, st⟩ := hb cdv A outer s H E ⟨hK, rfl, S.nd, PassesOwn.never, pass0, fun _ _ _ => pass0, hr, LamX.takes0⟩
    refine ⟨t, pt, st W _ H _ M _ ok (slots_start r) ?_⟩
    dsimp only at p
    unfold nox runF at p
    have fin : ∀ {v : VD} {M1 : Mem}, post C (relV C) E Q W H (trim M.length (.ok v M1)) → ∀ W1 H1 x, Step W H W1 H1 → Ok C W1 H1 M1 → RepV C W1 x v → Q x H1 := fun {v M1} p W1 H1 x s1 ok1 r1 => by
      unfold trim at p
      dsimp only at p
      split at p
      · rename_i hc
        rw [Bool.and_eq_true] at hc
        obtain ⟨s2, ok2⟩ := Ok.take s1 ok1 (Nat.le_of_eq ok.len) hc.2
        exact p _ _ _ s2 ok2 (r1.take hc.1)
      · exact p _ _ _ s1 ok1 r1
    cases q : body (ds.map some ++ List.replicate (N.length - ds.length) none) M with
    | nx ρ M1 =>
      rw [q] at p
      exact fun W1 H1 σ1 s1 ok1 _ => fin (v := .d .non) p W1 H1 _ s1 ok1 (show Rep C W1.B V.non D.non from .non)
    | ret v M1 =>
      rw [q] at p
      exact fin p
    | brk _ _ => rw [q] at p; exact p.elim
    | ct _ _ => rw [q] at p; exact p.elim
    | exc _ _ _ => rw [q] at p; exact p.elim
    | fail => rw [q] at p; exact p.elim
def fnM (n : Nat) (body : Sx) : List VD → Mem → Res VD := fun ds M => trim M.length (nox (runF n body ds M))
end
end G
namespace G
open PySem PySem.Spec PyProof.Rows L2 TL
section
variable {X : Cx} {C : Cf} {E : XK} {CX : CXT} {k : Nat}
def anyI (v : VD) (M : Mem) : Res (List D) := match v with
  | .d (.lst ds) => .ok ds M
  | .d (.tup ds) => .ok ds M
  | .d (.str s) => .ok (chars s) M
  | _ => .fail
def i_any (a : Mx VD) : Mx (List D) := fun ρ M => (a ρ M).bind anyI
theorem PI.or {tg e : Expr} {w1 w2 : TI} (h1 : PI X tg e w1) (h2 : PI X tg e w2) : PI X tg e (fun σ H R => w1 σ H R ∨ w2 σ H R) := ⟨fun pins s σ H R I h => by
  rcases h with h | h
  · exact h1.run pins s σ H R I h
  · exact h2.run pins s σ H R I h⟩
theorem xi_any {tg e : Expr} {m : Mx VD} (hK : C.K = X.K) (h : PX X C E e m) : PXI X C E tg e (i_any m) := by
  obtain ⟨w1, p1, s1⟩ := xi_lst (tg := tg) hK h
  obtain ⟨w2, p2, s2⟩ := xi_tup (tg := tg) hK h
  obtain ⟨w3, p3, s3⟩ := xi_str (tg := tg) h
  refine ⟨_, PI.or p1 (PI.or p2 p3), fun W σ H ρ M R ok sl p => ?_⟩
  unfold i_any at p
  cases q : m ρ M with
  | fail =>
    rw [q] at p
    exact p.elim
  | exc c fs M1 =>
    rw [q] at p
    refine .inl (s1 W σ H ρ M R ok sl ?_)
    unfold i_lst
    rw [q]
    exact p
  | ok v M1 =>
    rw [q] at p
    have p : post C (relI C) E R W H (anyI v M1) := p
    unfold anyI at p
    split at p
    · refine .inl (s1 W σ H ρ M R ok sl ?_)
      unfold i_lst
      rw [q]
      exact p
    · refine .inr (.inl (s2 W σ H ρ M R ok sl ?_))
      unfold i_tup
      rw [q]
      exact p
    · refine .inr (.inr (s3 W σ H ρ M R ok sl ?_))
      unfold i_str
      rw [q]
      exact p
    · exact p.elim
def f_app (x v : VD) (M : Mem) : Res VD := match x, v with
  | .adr j, .d d => match M[j]? with
    | some (.lst ds) => if ds.length < lim then .ok (.d .non) (M.set j (.lst (ds ++ [d]))) else .fail
    | _ => .fail
  | _, _ => .fail
def e_app (a b : Mx VD) : Mx VD := fun ρ M => (a ρ M).bind fun x M1 => match lstOf M1 x with
  | some _ => (b ρ M1).bind fun v M2 => f_app x v M2
  | none => .fail
theorem x_app {o e : Expr} {a b : Mx VD} {apos cpos : Pos} (hK : C.K = X.K) (ha : PX X C E o a) (hb : PX X C E e b) (hbase : attributeBase o "append" X.env (eval o X.env) = eval o X.env := by rfl)
    (hfew : ((backTo cpos (starEach [e] X.env)).all (fun x => !x.1) && (backToKw cpos (keywordEach [] X.env)).all (fun x => x.1.isSome) && decide ([e].length + ([] : List Keyword).length + (if ([] : List Keyword).isEmpty then 0 else 1) < 30)) = true := by rfl)
    (hline : (apos.endLine == cpos.line) = true := by rfl) (hs : starEach [e] X.env = (false, eval e X.env) :: starEach [] X.env := by rfl) : PX X C E (.Call (.Attribute o "append" apos) [e] [] cpos) (e_app a b) := by
  obtain ⟨ta, pa, sa⟩ := ha
  obtain ⟨tb, pb, sb⟩ := hb
  refine ⟨_, pe_bm PySem.F.plainAttrs_list PySem.F.slot_list_append PySem.F.type_list_append mt_append pa (pa_cons pb pa_nil hs) hbase hfew hline hs, fun W σ H ρ M Q ok sl p => ?_⟩
  refine sa W σ H ρ M _ ok sl (post_bind p fun x M1 W1 H1 vx l1 ok1 ra p1 => ?_)
  split at p1
  · rename_i ds0 e0
    obtain ⟨p0, vs0, rfl, hs0, hr0⟩ := lst_read ok1 ra e0
    refine ⟨.inl ⟨rfl, _, SqL.of hs0⟩, ?_⟩
    refine sb W1 σ H1 ρ M1 _ ok1 (sl.mono l1.le) (post_bind p1 fun v M2 W2 H2 vv l2 ok2 rb p2 => ?_)
    have ra := ra.mono l2.le
    cases x with
    | d _ => cases v <;> exact p2.elim
    | adr j =>
      cases v with
      | adr _ => exact p2.elim
      | d d =>
        obtain ⟨q, eq, hq⟩ := ra
        cases eq
        unfold f_app at p2
        dsimp only at p2
        split at p2
        · rename_i ds e
          split at p2
          · rename_i hl
            obtain ⟨hB, vs, h1, h2⟩ := ok2.mo j _ _ hq e
            refine ⟨_, vs, vv, rfl, rfl, h1, by rw [h2.length]; exact lim_lt hl, ?_⟩
            have ok3 := ok2.write (o := .lst (vs ++ [vv])) (m := .lst (ds ++ [d])) hq e (fun z => by cases z) ⟨hB, _, upd_same, h2.append (.cons rb .nil)⟩
            exact p2 _ _ _ (Step.write hq) ok3 (show Rep C W2.B V.non D.non from .non)
          · exact p2.elim
        · exact p2.elim
  · exact p1.elim
def f_seti (v o i : VD) (M : Mem) : Res Unit := match v, o, i with
  | .d d, .adr j, .d (.int i) => match M[j]? with
    | some (.lst ds) => match ixN ds.length i with
      | some n => .ok () (M.set j (.lst (ds.set n d)))
      | none => .fail
    | _ => .fail
  | _, _, _ => .fail
def s_seti (m o i : Mx VD) : Sx := fun ρ M => (m ρ M).out fun v M1 => (o ρ M1).out fun x M2 => (i ρ M2).out fun y M3 => (f_seti v x y M3).out fun _ M4 => .nx ρ M4
theorem xs_seti {o i e : Expr} {m mo mi : Mx VD} {p' pos : Pos} (h : PX X C E e m) (ho : PX X C E o mo) (hi : PX X C E i mi) (hs : swapsWithSole [.Subscript o i p'] e pos.line X.env = pure false := by rfl) (hw : swappedStores [.Subscript o i p'] e X.env = pure none := by rfl)
    (h1 : (assignEach [.Subscript o i p'] X.env).map (·.2) = [assign (.Subscript o i p') X.env] := by rfl) (ha : ∀ v, assign (.Subscript o i p') X.env v = (do
      let ov ← holding [v] (eval o X.env)
      let iv ← holding [v, ov] (eval i X.env)
      standAt p'
      holding [v, ov, iv] (setItem ov iv v)
      release [v, ov, iv] []) := by intro _; rfl) : PXS X C E (.Assign [.Subscript o i p'] e pos) (s_seti m mo mi) := by
  obtain ⟨t, pt, st⟩ := h
  obtain ⟨to, po, so⟩ := ho
  obtain ⟨ti, pi, si⟩ := hi
  refine ⟨_, ps_asg pt (pg_sub po pi set_list ha) hs hw h1, fun W σ H ρ M D ok sl p => ?_⟩
  refine st W σ H ρ M _ ok sl (post_out p fun v M1 W1 H1 vv l1 ok1 rv p1 => ?_)
  refine so W1 σ H1 ρ M1 _ ok1 (sl.mono l1.le) (post_out p1 fun x M2 W2 H2 vx l2 ok2 rx p2 => ?_)
  refine si W2 σ H2 ρ M2 _ ok2 ((sl.mono l1.le).mono l2.le) (post_out p2 fun y M3 W3 H3 vy l3 ok3 ry p3 => ?_)
  have rv := (rv.mono l2.le).mono l3.le
  have rx := rx.mono l3.le
  have sl3 := ((sl.mono l1.le).mono l2.le).mono l3.le
  cases q : f_seti v x y M3 with
  | fail =>
    rw [q] at p3
    exact p3.elim
  | exc _ _ _ =>
    unfold f_seti at q
    repeat (first | cases q | split at q)
  | ok u M4 =>
    rw [q] at p3
    have p3 : postS C E D W3 H3 (.nx ρ M4) := p3
    cases v with
    | adr _ => cases q
    | d d =>
      cases x with
      | d _ => cases q
      | adr j =>
        cases y with
        | adr _ => cases q
        | d y =>
          cases y with
          | int i =>
            obtain ⟨a, ea, hq⟩ := rx
            cases ea
            cases inv_int ry
            unfold f_seti at q
            dsimp only at q
            split at q
            · rename_i ds e
              split at q
              · rename_i n e2
                cases q
                obtain ⟨hB, vs, h1, h2⟩ := ok3.mo j _ _ hq e
                have ok4 := ok3.write (o := .lst (vs.set n vv)) (m := .lst (ds.set n d)) hq e (fun z => by cases z) ⟨hB, _, upd_same, RepA.set rv n h2⟩
                exact ⟨_, vs, i, n, rfl, rfl, h1, by rw [h2.length]; exact e2, p3 _ _ _ (Step.write hq) ok4 sl3⟩
              · cases q
            · cases q
          | non => cases q
          | bl _ => cases q
          | str _ => cases q
          | lst _ => cases q
          | tup _ => cases q
          | obj _ _ => cases q
          | scr _ => cases q
          | clo _ => cases q
          | exn _ _ => cases q
          | pv _ => cases q
          | dck _ _ => cases q
          | dcp _ _ => cases q
def frz1 (i : Nat) (ρ : Env) (M : Mem) : Option (Env × Mem) := match ρ[i]? with
  | some (some (.adr j)) => match M[j]? with
    | some (.lst ds) => some (ρ.set i (some (.d (.lst ds))), M.set j .dead)
    | _ => none
  | some (some (.d (.lst ds))) => some (ρ, M)
  | _ => none
def s_frz (i : Nat) (s : Sx) : Sx := fun ρ M => match frz1 i ρ M with
  | some (ρ1, M1) => s ρ1 M1
  | none => .fail
theorem frz1_ok {W : Wd} {σ : L2.St} {H : Hp} {ρ ρ1 : Env} {M M1 : Mem} {i : Nat} (ok : Ok C W H M) (sl : Slots C W σ ρ) (h : frz1 i ρ M = some (ρ1, M1)) : ∃ W1, Step W H W1 H ∧ Ok C W1 H M1 ∧ Slots C W1 σ ρ1 := by
  unfold frz1 at h
  split at h
  · rename_i j e
    split at h
    · rename_i ds e2
      cases h
      obtain ⟨v, hv, a, rfl, ha⟩ := sl.2 i _ e
      obtain ⟨hB, vs, h1, h2⟩ := ok.mo j _ _ ha e2
      obtain ⟨ok', l⟩ := ok.freeze (o := .lst vs) ha e2 (fun z => by cases z) h1
      refine ⟨_, Step.freeze ha hB, ok', (sl.mono l).1.trans (by rw [List.length_set]), fun k d e3 => ?_⟩
      by_cases hk : i = k
      · subst hk
        rw [List.getElem?_set_self (List.getElem?_eq_some_iff.mp e).1] at e3
        cases e3
        exact ⟨_, hv, Rep.lst (by show upd W.B a _ a = _; rw [upd_same]) (h2.mono l.1)⟩
      · rw [List.getElem?_set_ne hk] at e3
        exact (sl.mono l).2 k d e3
    · cases h
  · cases h
    exact ⟨W, Step.refl _ _, ok, sl⟩
  · cases h
theorem xs_frz {st : Stmt} {m : Sx} (i : Nat) (h : PXS X C E st m) : PXS X C E st (s_frz i m) := by
  obtain ⟨t, pt, s⟩ := h
  refine ⟨t, pt, fun W σ H ρ M D ok sl p => ?_⟩
  unfold s_frz at p
  cases q : frz1 i ρ M with
  | none =>
    rw [q] at p
    exact p.elim
  | some r =>
    obtain ⟨ρ1, M1⟩ := r
    rw [q] at p
    obtain ⟨W1, s1, ok1, sl1⟩ := frz1_ok ok sl q
    exact s W1 σ H ρ1 M1 D ok1 sl1 (postS.mono s1 p)
noncomputable def f_pow : VD → VD → Mem → Res VD
  | .d (.int i), .d (.int j), M => gi (0 ≤ j ∧ j ≤ 1000000 ∧ i.natAbs < 2 ^ 64) (.ok (.d (.int (i ^ j.toNat))) M) .fail
  | _, _, _ => .fail
theorem p_pow : OpS C E (rI CPow fun i j => .int (i ^ j.toNat)) f_pow := fun W H M x y a b Q ok ra rb p => by
  unfold f_pow at p
  split at p
  · unfold gi at p
    split at p
    · rename_i h
      cases inv_int ra
      cases inv_int rb
      exact ⟨_, _, rfl, rfl, h, post_ok p ok (.int _)⟩
    · exact p.elim
  · exact p.elim
theorem x_pow {a b : Expr} {ma mb : Mx VD} {pos : Pos} (ha : PX X C E a ma) (hb : PX X C E b mb) : PX X C E (.BinOp a .Pow b pos) (e_op f_pow ma mb) := x_op op_pow p_pow ha hb
def f_abs : List VD → Mem → Res VD
  | [.d (.int i)], M => .ok (.d (.int (if i < 0 then -i else i))) M
  | _, _ => .fail
theorem p_abs : CallS C E (fun xs H Q => ∃ i, xs = [.int i] ∧ Q (.int (if i < 0 then -i else i)) H) f_abs := fun W H M xs as Q ok ra p => by
  unfold f_abs at p
  split at p
  · obtain ⟨x, rfl, r⟩ := ra.one
    cases inv_int r
    exact ⟨_, rfl, post_ok p ok (.int _)⟩
  · exact p.elim
theorem enc_tl (s : List Nat) : tl (enc s) = s := by simp [enc, tl]
theorem of_tl {x : Str} {s : List Nat} (h : tl x = s) : x = enc s := by
  cases x
  subst h
  simp [enc, tl]
theorem map_tl_enc (ss : List (List Nat)) : (ss.map enc).map tl = ss := by
  rw [List.map_map]
  conv => rhs; rw [← List.map_id ss]
  exact List.map_congr_left fun s _ => enc_tl s
def szs : List (List Nat) → Nat
  | [] => 0
  | s :: r => s.length + szs r
theorem szs_eq : ∀ ss : List (List Nat), ((ss.map enc).map (·.length)).sum = szs ss
  | [] => rfl
  | s :: r => by
    simp only [List.map_cons, List.sum_cons, szs, szs_eq r, enc_len]
def f_join : VD → VD → Mem → Res VD := fun a b M => match a with
  | .d (.str sep) => match (seqOf M b).bind stL with
    | some ss => if szs ss + ss.length * sep.length ≤ lim then .ok (.d (.str (TL.joinL sep ss))) M else .fail
    | none => .fail
  | _ => .fail
def isStr : VD → Bool
  | .d (.str _) => true
  | _ => false
theorem isStr_inv {W : Wd} {x : V} {a : VD} (h : isStr a = true) (r : RepV C W x a) : ∃ s, a = .d (.str s) ∧ x = .str (enc s) := by
  cases a with
  | adr _ => cases h
  | d y =>
    cases y with
    | str s => exact ⟨s, rfl, inv_str r⟩
    | non => cases h
    | bl _ => cases h
    | int _ => cases h
    | lst _ => cases h
    | tup _ => cases h
    | obj _ _ => cases h
    | scr _ => cases h
    | clo _ => cases h
    | exn _ _ => cases h
    | pv _ => cases h
    | dck _ _ => cases h
    | dcp _ _ => cases h
/-- a text's method with one argument -/
def e_m1 (f : VD → VD → Mem → Res VD) (a b : Mx VD) : Mx VD := fun ρ M => (a ρ M).bind fun x M1 => if isStr x then (b ρ M1).bind fun y M2 => f x y M2 else .fail
theorem sem_m1 {r : V → List V → Hp → VK → Prop} {f} {ta tb : TE} {ma mb : Mx VD} (hr : OpS C E (fun x y H Q => r x [y] H Q) f) (ha : Sem C E ta ma) (hb : Sem C E tb mb) : Sem C E (tM1 r ta tb) (e_m1 f ma mb) := fun W σ H ρ M Q ok sl p => by
  refine ha W σ H ρ M _ ok sl (post_bind p fun a M1 W1 H1 x l1 ok1 ra p1 => ?_)
  split at p1
  · rename_i hs
    obtain ⟨s, ea, ex⟩ := isStr_inv hs ra
    refine ⟨⟨_, ex⟩, ?_⟩
    refine hb W1 σ H1 ρ M1 _ ok1 (sl.mono l1.le) (post_bind p1 fun b M2 W2 H2 y l2 ok2 rb p2 => ?_)
    exact hr W2 H2 M2 x y a b Q ok2 (ra.mono l2.le) rb p2
  · exact p1.elim
theorem strs_read {W : Wd} {H : Hp} {M : Mem} {x : V} {a : VD} {ss : List (List Nat)} (ok : Ok C W H M) (r : RepV C W x a) (h : (seqOf M a).bind stL = some ss) : ∃ p, x = .ref p ∧ (SqL C.K H p ((ss.map enc).map V.str) ∨ SqT C.K H p ((ss.map enc).map V.str)) := by
  cases q : seqOf M a with
  | none =>
    rw [q] at h
    cases h
  | some ds =>
    rw [q] at h
    obtain ⟨p, vs, rfl, hs, hr⟩ := seq_read ok r q
    rw [hr.stL h] at hs
    exact ⟨p, rfl, hs⟩
theorem p_join : OpS C E (fun x y H Q => ∃ a p, ∃ ys : List Str, x = .str a ∧ [y] = [.ref p] ∧ (SqL C.K H p (ys.map V.str) ∨ SqT C.K H p (ys.map V.str)) ∧ (ys.map (·.length)).sum + ys.length * a.length ≤ 16777216 ∧ Q (.str (Txt.join a ys)) H) f_join := fun W H M x y a b Q ok ra rb p => by
  unfold f_join at p
  split at p
  · rename_i sep
    split at p
    · rename_i ss e
      split at p
      · rename_i hl
        cases inv_str ra
        obtain ⟨q, rfl, hs⟩ := strs_read ok rb e
        refine ⟨_, q, ss.map enc, rfl, rfl, hs, ?_, ?_⟩
        · rw [szs_eq, List.length_map, enc_len]
          exact Nat.le_trans hl (by decide)
        · have e2 : Txt.join (enc sep) (ss.map enc) = enc (TL.joinL sep ss) := of_tl (by rw [join_eq, tl_join, enc_tl, map_tl_enc])
          rw [e2]
          exact post_ok p ok (.str _)
      · exact p.elim
    · exact p.elim
  · exact p.elim
theorem x_join {o e : Expr} {ma mb : Mx VD} {apos pos : Pos} (hK : C.K = X.K) (ha : PX X C E o ma) (hb : PX X C E e mb) (hs : starEach [e] X.env = [(false, eval e X.env)] := by rfl) (hbase : attributeBase o "join" X.env (eval o X.env) = eval o X.env := by rfl) (hline : (apos.endLine == pos.line) = true := by rfl) :
    PX X C E (.Call (.Attribute o "join" apos) [e] [] pos) (e_m1 f_join ma mb) := by
  obtain ⟨ta, pa, sa⟩ := ha
  obtain ⟨tb, pb, sb⟩ := hb
  have q := sem_m1 (C := C) (E := E) (r := fun x xs H Q => ∃ a p, ∃ ys : List Str, x = .str a ∧ xs = [.ref p] ∧ (SqL C.K H p (ys.map V.str) ∨ SqT C.K H p (ys.map V.str)) ∧ (ys.map (·.length)).sum + ys.length * a.length ≤ 16777216 ∧ Q (.str (Txt.join a ys)) H) p_join sa sb
  rw [hK] at q
  exact ⟨_, pe_join pa pb hs hbase hline, q⟩
end
end G
namespace G
open PySem PySem.Spec PyProof.Rows L2
section
variable {P : Program} {w : World} {A : Around} {E : Value → Shared → Prop} {s : Shared}
/-- a set of texts at a: its members l, in some order -/
def TS (P : Program) (w : World) (h : Heap) (a : Addr) (l : List Str) : Prop :=
  ∃ D : Froz.SD, h.get? a = some (Froz.sObj "set" D) ∧ Froz.TxOk P w D l ∧ l.Nodup ∧ (D.1.toList.map fun e => strOf e.2).Perm l ∧ Ris D.2.2.place.toList ∧ (w.params.followText "set-order" = true ∨ D.2.2.led = true)
theorem TS.at {h h' : Heap} {a : Addr} {l : List Str} (R : TS P w h a l) (k : ∀ o, h.get? a = some o → h'.get? a = some o) : TS P w h' a l := by
  obtain ⟨D, e, r⟩ := R
  exact ⟨D, k _ e, r⟩
theorem tailTx_ris {ep : Nat} {es : Array (Int × Value)} {t : SetTable} {d : Bool} (h : Ris t.place.toList) : Ris (Froz.tailTx ep es t d).2.2.place.toList := by
  unfold Froz.tailTx
  split
  · exact relayAll_ris _ _ _
  · exact h
theorem tailTx_led {ep : Nat} {es : Array (Int × Value)} {t : SetTable} {d : Bool} : (Froz.tailTx ep es t d).2.2.led = t.led := by
  unfold Froz.tailTx
  split
  · exact relayAll_led _ _ _
  · rfl
theorem addTx_ris {x : Int} {v : Value} {D : Froz.SD} (h : Ris D.2.2.place.toList) : Ris (Froz.addTx x v D).2.2.place.toList := by
  have h1 := layNew_ris D.2.2 D.1 x v h
  refine tailTx_ris ?_
  split
  · exact h1
  · exact h1
theorem addTx_led {x : Int} {v : Value} {D : Froz.SD} : (Froz.addTx x v D).2.2.led = D.2.2.led := by
  have h1 := layNew_led D.2.2 D.1 x v
  refine tailTx_led.trans ?_
  split
  · exact h1
  · exact h1
theorem addTx_pm {x : Int} {k : Str} {u : Tok} {D : Froz.SD} {l : List Str} (h : (D.1.toList.map fun e => strOf e.2).Perm l) : ((Froz.addTx x (.str k u) D).1.toList.map fun e => strOf e.2).Perm (k :: l) := by
  have h1 := layNew_perm D.2.2 D.1 x (.str k u)
  have h2 : ∀ (ep : Nat) (es : Array (Int × Value)) (t : SetTable) (d : Bool), (Froz.tailTx ep es t d).1.toList.Perm es.toList := fun ep es t d => by
    unfold Froz.tailTx
    split
    · exact relayAll_perm _ _ _
    · exact List.Perm.refl _
  have h0 : (Froz.addTx x (.str k u) D).1.toList.Perm (layNew D.2.2 D.1 x (.str k u)).1.toList := h2 _ _ _ _
  have h3 := (h0.trans h1).map fun e : Int × Value => strOf e.2
  rw [Array.toList_push, List.map_append] at h3
  refine h3.trans ?_
  exact (List.perm_append_comm).trans (List.Perm.cons k h)
/-- one text more -/
theorem TS.add {a : Addr} {l : List Str} {k : Str} {u : Tok} {Q : Bool → Shared → Prop} (R : TS P w s.heap a l) (hb : l.length + 1 < scanBound)
    (h : ∀ h' b, Heap.SameBut a s.heap h' → TS P w h' a (if k ∈ l then l else k :: l) → Q b { s with heap := h' }) : wpAny (model P w) A (setAddHashed a (.str k u) (hashStr w k)) Q E s := by
  obtain ⟨D, e, F, nd, pm, r1, r2⟩ := R
  by_cases hk : k ∈ l
  · have hd : (Froz.sObj "set" D).data = .set D.1 D.2.1 D.2.2 := rfl
    have hel := F.el
    have hsz : D.1.size < scanBound := by rw [F.sz]; omega
    have hkey := Froz.is_str (P := P) (w := w) k u
    have q := h s.heap false (Heap.SameBut.refl a s.heap) ⟨D, e, by rw [if_pos hk]; exact F, by rw [if_pos hk]; exact nd, by rw [if_pos hk]; exact pm, r1, r2⟩
    unfold setAddHashed setAddHashedIn
    refine wpAny_holding (wpAny_bind (wpAny_setState_of e hd F.fit ?_))
    dsimp only
    rw [byScan_of rfl hsz hel, if_pos rfl]
    unfold setAddByScan
    refine wpAny_bind (wpAny_bind (wpAny_rule (wpAny_bind (wpAny_setScan_of (knd := strKind P w) (k := k) hkey e hd F.fit hel ?_))))
    obtain ⟨y, hy, z⟩ := (F.mem k).mp hk
    cases c : List.findIdx? (fun e => (strKind P w).is k e.2) D.1.toList with
    | none =>
      have := List.findIdx?_eq_none_iff.mp c y hy
      rw [z] at this
      cases this
    | some j =>
      dsimp only
      exact wpAny_pure (wpAny_pure q)
  · refine Froz.add_x e F hk hb (h _ _ (Heap.SameBut.update s.heap a _) ?_)
    rw [if_neg hk]
    exact ⟨_, Froz.get_upd _ e rfl, Froz.add_ok u F, List.nodup_cons.mpr ⟨hk, nd⟩, addTx_pm pm, addTx_ris r1, r2.imp id fun z => by rw [addTx_led]; exact z⟩
/-- the rest of a text's signs -/
theorem ts_loop {I : Addr} {fp wr : List Addr} {Gq : Array GenState → Array GenState → Prop} {St : Nat → Shared → Prop} {R : Result → Shared → Prop} {x : Str} (Wk : WalksS P w A.in1 I fp wr Gq x.cps.size (SignAt x) St) (a : Addr) (hf : a ∉ fp) (hb : x.cps.size + 1 < scanBound) :
    ∀ (m i : Nat) (l : List Str) (s : Shared), x.cps.size - i = m → i ≤ x.cps.size → St i s → TS P w s.heap a l → l.length ≤ i → (∀ k, k ∈ l ↔ ∃ j c, j < i ∧ x.cps[j]? = some c ∧ k = ⟨#[c]⟩) →
      (∀ s' l, Moved (a :: wr) Gq s s' → TS P w s'.heap a l → l.length ≤ x.cps.size → (∀ k, k ∈ l ↔ ∃ c ∈ x.cps.toList, k = ⟨#[c]⟩) → R (.ok (.ret .none)) s') →
      codeAny (model P w) A (.builtin "set.update.loop" ⟨[.ref a, .ref I], []⟩) R s := by
  have hw : a ∉ wr := fun z => hf (Wk.sub _ z)
  have sub : ∀ b ∈ wr, b ∈ a :: wr := fun b z => List.mem_cons_of_mem _ z
  intro m
  induction m with
  | zero =>
    intro i l s hm hi st R0 hl hk fin
    refine codeAny_builtin F.entry_set_update_loop ?_
    rw [Around.under_plainId F.plain_set_update_loop _]
    show wpAny _ _ (pyNext (.ref I) >>= _) _ _ _
    have hi' : i = x.cps.size := by omega
    subst hi'
    refine wpAny_bind (Wk.done s _ _ st fun s1 mv => wpAny_pure ?_)
    refine fin s1 l (mv.mono sub) (R0.at fun o e => mv.heap a o hw e) hl fun k => (hk k).trans ⟨?_, ?_⟩
    · rintro ⟨j, c, _, h2, h3⟩
      exact ⟨c, by rw [← Array.getElem?_toList] at h2; exact List.mem_of_getElem? h2, h3⟩
    · rintro ⟨c, h1, h2⟩
      obtain ⟨j, hj, e⟩ := List.getElem_of_mem h1
      exact ⟨j, c, by simpa using hj, by rw [← Array.getElem?_toList, List.getElem?_eq_getElem hj, e], h2⟩
  | succ m ih =>
    intro i l s hm hi st R0 hl hk fin
    refine codeAny_builtin F.entry_set_update_loop ?_
    rw [Around.under_plainId F.plain_set_update_loop _]
    show wpAny _ _ (pyNext (.ref I) >>= _) _ _ _
    refine wpAny_bind (Wk.item i s _ _ (by omega) st fun v s1 hv st1 mv => ?_)
    obtain ⟨c, u, hc, rfl⟩ := hv
    have R1 : TS P w s1.heap a l := R0.at fun o e => mv.heap a o hw e
    refine wpAny_bind (wpAny_holding ?_)
    unfold setAdd
    refine wpAny_holding (wpAny_bind ((strKind P w).pyHash (k := ⟨#[c]⟩) (Froz.is_str _ _) ?_))
    refine TS.add (s := { s1 with toks := s1.toks + 1 }) R1 (by omega) fun h' b sb R2 => wpAny_pure ⟨plainId_quiet F.plain_set_update_loop _, ?_⟩
    have nl : (if (⟨#[c]⟩ : Str) ∈ l then l else ⟨#[c]⟩ :: l).length ≤ i + 1 := by
      split
      · omega
      · rw [List.length_cons]; omega
    refine ih (i + 1) _ _ (by omega) (by omega) (Wk.frame _ s1 _ _ st1 (Nat.le_succ _) fun b hb o e => (sb.2 b fun z => hf (z ▸ hb)).trans e) R2 nl (fun k => ?_) fun s2 l2 mv2 R3 hl2 hk2 => fin s2 l2 (Moved.trans Wk.gtrans ((mv.mono sub).then_heap (Nat.le_succ _) fun b o hb e => (sb.2 b fun z => hb (z ▸ List.mem_cons_self)).trans e) mv2) R3 hl2 hk2
    have base : k ∈ (if (⟨#[c]⟩ : Str) ∈ l then l else ⟨#[c]⟩ :: l) ↔ k ∈ l ∨ k = ⟨#[c]⟩ := by
      split
      · rename_i z
        exact ⟨.inl, fun q => q.elim id fun q => q ▸ z⟩
      · rw [List.mem_cons]
        exact Or.comm
    rw [base, hk k]
    constructor
    · rintro (⟨j, c', h1, h2, h3⟩ | h)
      · exact ⟨j, c', by omega, h2, h3⟩
      · exact ⟨i, c, by omega, hc, h⟩
    · rintro ⟨j, c', h1, h2, h3⟩
      by_cases hj : j = i
      · subst hj
        rw [hc] at h2
        cases h2
        exact .inr h3
      · exact .inl ⟨j, c', by omega, h2, h3⟩
abbrev eset (w : World) : Obj := Froz.sObj "set" (#[], 0, SetTable.fresh 0 0 (!w.params.followText "set-order"))
theorem ts_fresh {h : Heap} {a : Addr} (e : h.get? a = some (eset w)) : TS P w h a [] :=
  ⟨_, e, Froz.TxOk.nil rfl, List.nodup_nil, List.Perm.refl _, List.Pairwise.nil, by
    show _ ∨ (!w.params.followText "set-order") = true
    cases w.params.followText "set-order"
    · exact .inr rfl
    · exact .inl rfl⟩
/-- set(x) -/
theorem call_set_txt {x : Str} {u : Tok} {Q : Value → Shared → Prop} (hh : A.handled = none) (hb : x.cps.size + 1 < scanBound)
    (h : ∀ (h' : Heap) (tk : Nat) (l : List Str), TS P w h' s.heap.objs.size l → l.length ≤ x.cps.size → (∀ k, k ∈ l ↔ ∃ c ∈ x.cps.toList, k = ⟨#[c]⟩) → (∀ b o, s.heap.get? b = some o → h'.get? b = some o) → Q (.ref s.heap.objs.size) { s with heap := h', toks := tk }) :
    wpAny (model P w) A (call (.type "set") [.str x u]) Q E s := by
  obtain ⟨c, tl, hmro⟩ := F.called_set.mro
  have hmade := F.called_set.made
  have hsub := F.called_set.sub
  refine wpAny_call (codeAny_of_tree (by
    show wpAny _ _ (callAny (.type "set") _) _ _ _
    refine wpAny_pure ⟨Code.quiet_builtin _ (by decide +kernel), codeAny_builtin F.entry_type_call ?_⟩
    rw [Around.under_plain (weight_type_call_type "set" [.str x u] []) rfl]
    have h1 := F.called_set.notType
    have h2 := F.called_set.canCreate
    have hct := F.typeCall_set_1 (.str x u)
    repeat (any_goals (first | assumption | wp_step))
    refine codeAny_mono (code_set_led1 (.str x u) (E := E) (Q₁ := fun ob s1 => ob = .ref s.heap.objs.size ∧ s1 = { s with heap := s.heap.push (eset w) }) ⟨rfl, rfl⟩) fun r s1 hr => ?_
    cases r with
    | error e => exact hr
    | ok fl =>
      cases fl with
      | ret ob =>
        obtain ⟨rfl, rfl⟩ := hr
        have hS : (s.heap.push (eset w)).get? s.heap.objs.size = some (eset w) := Heap.get?_push_size _ rfl
        have hT : Shared.TypeIs { s with heap := s.heap.push (eset w) } (.ref s.heap.objs.size) "set" := ⟨_, hS, rfl⟩
        have hli := F.called_set.init.lookup
        have hbi := F.called_set.init.bind (.ref s.heap.objs.size)
        repeat (any_goals (first | assumption | wp_step))
        refine codeAny_mono (codeAny_call_builtin (R := wants (fun r s2 => r = .none ∧ ∃ h' tk l, s2 = { s with heap := h', toks := tk } ∧ TS P w h' s.heap.objs.size l ∧ l.length ≤ x.cps.size ∧ (∀ k, k ∈ l ↔ ∃ c ∈ x.cps.toList, k = ⟨#[c]⟩) ∧ (∀ b o, s.heap.get? b = some o → h'.get? b = some o)) E) F.called_set.init.plain F.entry_set_init (check_set_init_1 hT ?_)) fun r2 s2 hr2 => ?_
        · have i1 := F.sub_str_set
          have i2 := F.sub_str_frozenset
          have i3 : (Value.type "str" == Value.type "dict") = false := by decide
          unfold Builtin.«set.__init__» noKeywords Builtin.Frozenset.updateFrom
          generalize hPI : pyIter = PI
          wp_walk
          subst hPI
          refine wpAny_pyIter_str fun o St Wk st0 => wpAny_bind (wpAny_runValue ?_)
          have hsz : (s.heap.push (eset w)).objs.size = s.heap.objs.size + 1 := Heap.size_push ..
          have hh3 : A.in1.in1.in1.handled = none := by simp [hh]
          refine ts_loop (Wk _ hh3).toS s.heap.objs.size (by rw [hsz]; simp) hb (x.cps.size - 0) 0 [] _ (by omega) (Nat.zero_le _) st0 (ts_fresh (Heap.get?_push_of_some _ hS)) (Nat.zero_le _) (fun k => by simp) fun s' l mv R hl hk => ?_
          obtain ⟨h', g2, d', tk', os'⟩ := s'
          obtain rfl : g2 = s.gens := mv.gens
          obtain rfl : d' = s.drawn := mv.drawn
          obtain rfl : os' = s.os := mv.os
          show wpAny _ _ _ _ _ _
          refine wpAny_pure ?_
          show wpAny _ _ (ret Value.none) _ _ _
          refine wpAny_pure ⟨rfl, h', tk', l, rfl, R, hl, hk, fun b o e => ?_⟩
          have hb0 : b < s.heap.objs.size := Heap.lt_size e
          exact mv.heap b o (by rw [hsz]; simp; exact ⟨Nat.ne_of_lt hb0, Nat.ne_of_lt (Nat.lt_succ_of_lt hb0)⟩) (Heap.get?_push_of_some _ (Heap.get?_push_of_some _ e))
        · cases r2 with
          | error e => exact hr2
          | ok fl2 =>
            cases fl2 with
            | ret r =>
              obtain ⟨rfl, h', tk, l, rfl, q1, q2, q3, q4⟩ := hr2
              repeat (any_goals (first | assumption | wp_step))
              exact h _ _ _ q1 q2 q3 q4
            | _ => exact hr2.elim
      | _ => exact hr.elim))
/-- sorted(set) -/
theorem sorted_ts {a : Addr} {l : List Str} {Q : Value → Shared → Prop} (R : TS P w s.heap a l) (hh : A.handled = none) (h64 : l.length < 64)
    (hQ : ∀ s' p (out : Array Value) (c : Nat) (ss : List Str), (∀ b o, s.heap.get? b = some o → s'.heap.get? b = some o) → s'.gens = s.gens → s'.os = s.os → s.heap.objs.size ≤ p →
      s'.heap.get? p = some (seqObj "list" out c) → StrsAre out.toList ss → ss.Perm l → ss.Nodup → sortedS ss = true → Q (.ref p) s') : wpAny (model P w) A (call (.builtin "sorted") [.ref a]) Q E s := by
  obtain ⟨D, e, F, nd, pm, r1, r2⟩ := R
  have hd : D.1.size < scanBound := by
    have : D.1.size = l.length := F.sz
    have h2 : 64 ≤ scanBound := by decide
    omega
  refine Calls.call_function_entry kind_sorted plain_sorted entry_sorted (args_sorted1 _) (by
    unfold Builtin.«sorted»
    refine wpAny_bind (m := checkCount "sorted" 1 1 _) (wpAny_pure (wpAny_bind (collect_set (A := A.in1) hh ⟨_, e, rfl, rfl⟩ F.fit hd r1 r2 fun s1 vs k1 hz g1 o1 pv => ?_)))
    have hv : ∀ v, v ∈ vs → ∃ x t, v = .str x t := fun v hm => by
      obtain ⟨y, hy, q⟩ := List.mem_map.mp (pv.mem_iff.mp hm)
      obtain ⟨⟨k, hk, _⟩, _⟩ := F.el y hy
      obtain ⟨t, z⟩ := Value.isStrOf_shape hk
      exact ⟨k, t, by rw [← q, z]⟩
    have hS := strsAre_map vs hv
    have ps : (vs.map strOf).Perm l := by
      have q := pv.map strOf
      rw [List.map_map] at q
      exact q.trans pm
    have hl : vs.length = l.length := by rw [← ps.length_eq, List.length_map]
    refine wpAny_bind (wpAny_newList ?_ (by rw [hl, sizeLine_eq]; omega))
    have hoL : (s1.heap.push (seqObj "list" vs.toArray 0)).get? s1.heap.objs.size = some (seqObj "list" vs.toArray 0) := Heap.get?_push_size _ rfl
    refine wpAny_bind (wpAny_holding (wpAny_call_entry slot_list_sort ⟨_, hoL, rfl⟩ entry_list_sort (list_sort_treeK strKind_oneLt hoL hS.keysOf (fun a b r z => keyKind_strs (by rw [← z]; exact hS)) (by omega) fun st hp hs => ⟨_, rfl, ?_⟩) (args_list_sort _)))
    obtain ⟨ss, q1, q2, q3⟩ := sorted_out_str hS hp hs
    obtain ⟨c, hc⟩ := sortedHeap_at (vs := vs) (out := (arrOf st).map (·.2)) hoL
    refine wpAny_pure ⟨_, rfl, hQ _ s1.heap.objs.size _ c ss (fun b u z => ?_) g1 o1 hz hc q1 (q2.trans ps) ((q2.trans ps).nodup_iff.mpr nd) q3⟩
    have z1 := k1 b u z
    have lt := Heap.lt_size z1
    show (sortedHeap (s1.heap.push (seqObj "list" vs.toArray 0)) s1.heap.objs.size vs _).get? b = some u
    rw [sortedHeap_old (Nat.ne_of_lt lt) (by rw [size_push']; exact Nat.lt_succ_of_lt lt)]
    exact Heap.get?_push_of_some _ z1)
end
def insU (c : Nat) : List Nat → List Nat
  | [] => [c]
  | d :: r => if c < d then c :: d :: r else if c = d then d :: r else d :: insU c r
def sortU : List Nat → List Nat
  | [] => []
  | c :: r => insU c (sortU r)
theorem mem_insU {c x : Nat} : ∀ {l : List Nat}, x ∈ insU c l ↔ x = c ∨ x ∈ l
  | [] => by simp [insU]
  | d :: r => by
    unfold insU
    split
    · simp
    · split
      · rename_i h
        subst h
        simp
      · simp [mem_insU (l := r)]
        constructor
        · rintro (h | h | h)
          · exact .inr (.inl h)
          · exact .inl h
          · exact .inr (.inr h)
        · rintro (h | h | h)
          · exact .inr (.inl h)
          · exact .inl h
          · exact .inr (.inr h)
theorem mem_sortU {x : Nat} : ∀ {l : List Nat}, x ∈ sortU l ↔ x ∈ l
  | [] => Iff.rfl
  | c :: r => by rw [sortU, mem_insU, mem_sortU, List.mem_cons]
theorem insU_lt {c : Nat} : ∀ {l : List Nat}, l.Pairwise (· < ·) → (insU c l).Pairwise (· < ·)
  | [], _ => List.pairwise_singleton _ _
  | d :: r, h => by
    obtain ⟨h1, h2⟩ := List.pairwise_cons.mp h
    unfold insU
    split
    · rename_i z
      refine List.pairwise_cons.mpr ⟨fun y hy => ?_, h⟩
      rcases List.mem_cons.mp hy with rfl | hy
      · exact z
      · exact Nat.lt_trans z (h1 y hy)
    · split
      · exact h
      · refine List.pairwise_cons.mpr ⟨fun y hy => ?_, insU_lt h2⟩
        rcases mem_insU.mp hy with rfl | hy
        · omega
        · exact h1 y hy
theorem sortU_lt : ∀ l : List Nat, (sortU l).Pairwise (· < ·)
  | [] => List.Pairwise.nil
  | c :: r => insU_lt (sortU_lt r)
/-- two rising lists of the same members are one -/
theorem rise_eq : ∀ {a b : List Nat}, a.Pairwise (· < ·) → b.Pairwise (· < ·) → (∀ x, x ∈ a ↔ x ∈ b) → a = b
  | [], [], _, _, _ => rfl
  | [], y :: b, _, _, h => by simpa using (h y).mpr List.mem_cons_self
  | x :: a, [], _, _, h => by simpa using (h x).mp List.mem_cons_self
  | x :: a, y :: b, ha, hb, h => by
    obtain ⟨a1, a2⟩ := List.pairwise_cons.mp ha
    obtain ⟨b1, b2⟩ := List.pairwise_cons.mp hb
    have e : x = y := by
      rcases List.mem_cons.mp ((h x).mp List.mem_cons_self) with e | e
      · exact e
      · rcases List.mem_cons.mp ((h y).mpr List.mem_cons_self) with e2 | e2
        · exact e2.symm
        · have := b1 x e
          have := a1 y e2
          omega
    subst e
    rw [rise_eq a2 b2 fun z => ?_]
    constructor
    · intro hz
      rcases List.mem_cons.mp ((h z).mp (List.mem_cons_of_mem _ hz)) with e | e
      · have := a1 z hz
        omega
      · exact e
    · intro hz
      rcases List.mem_cons.mp ((h z).mpr (List.mem_cons_of_mem _ hz)) with e | e
      · have := b1 z hz
        omega
      · exact e
theorem sortU_self {l : List Nat} (h : l.Pairwise (· < ·)) : sortU l = l := rise_eq (sortU_lt l) h fun _ => mem_sortU
def sgn (c : Nat) : Str := ⟨#[c]⟩
theorem rise_of : ∀ (t : List Nat) (p : Nat), risingS (sgn p) (t.map sgn) = true → (p :: t).Nodup → (p :: t).Pairwise (· < ·)
  | [], p, _, _ => List.pairwise_singleton _ _
  | x :: r, p, h, nd => by
    have h' : (!ltCps [x] [p] && risingS (sgn x) (r.map sgn)) = true := h
    rw [Bool.and_eq_true] at h'
    obtain ⟨h1, h2⟩ := h'
    obtain ⟨n1, n2⟩ := List.nodup_cons.mp nd
    have ih := rise_of r x h2 n2
    have hxp : ¬ x < p := fun z => by
      rw [ltCps_eq, decide_eq_true (show ([x] : List Nat) < [p] from List.Lex.rel z)] at h1
      cases h1
    have hp : p < x := by
      have : p ≠ x := fun z => n1 (z ▸ List.mem_cons_self)
      omega
    refine List.pairwise_cons.mpr ⟨fun y hy => ?_, ih⟩
    rcases List.mem_cons.mp hy with rfl | hy
    · exact hp
    · exact Nat.lt_trans hp ((List.pairwise_cons.mp ih).1 y hy)
theorem sgn_list : ∀ {ys : List Str}, (∀ k ∈ ys, ∃ c, k = sgn c) → ∃ t : List Nat, ys = t.map sgn
  | [], _ => ⟨[], rfl⟩
  | y :: ys, h => by
    obtain ⟨c, rfl⟩ := h y List.mem_cons_self
    obtain ⟨t, rfl⟩ := sgn_list fun k hk => h k (List.mem_cons_of_mem _ hk)
    exact ⟨c :: t, rfl⟩
theorem sgn_mem {t : List Nat} {c : Nat} : sgn c ∈ t.map sgn ↔ c ∈ t := by
  rw [List.mem_map]
  constructor
  · rintro ⟨d, hd, e⟩
    have : [d] = [c] := congrArg (fun z : Str => z.cps.toList) e
    cases this
    exact hd
  · exact fun h => ⟨c, h, rfl⟩
theorem sgn_nodup : ∀ {t : List Nat}, (t.map sgn).Nodup → t.Nodup
  | [], _ => List.nodup_nil
  | c :: t, h => by
    obtain ⟨h1, h2⟩ := List.nodup_cons.mp h
    exact List.nodup_cons.mpr ⟨fun z => h1 (sgn_mem.mpr z), sgn_nodup h2⟩
theorem srt_is {s : List Nat} {ys : List Str} (hm : ∀ k, k ∈ ys ↔ ∃ c ∈ s, k = ⟨#[c]⟩) (nd : ys.Nodup) (hs : sortedS ys = true) : ys = (sortU s).map sgn := by
  obtain ⟨t, rfl⟩ := sgn_list (ys := ys) fun k hk => by
    obtain ⟨c, _, e⟩ := (hm k).mp hk
    exact ⟨c, e⟩
  have hr : t.Pairwise (· < ·) := by
    cases t with
    | nil => exact List.Pairwise.nil
    | cons p r => exact rise_of r p hs (sgn_nodup nd)
  rw [rise_eq hr (sortU_lt s) fun x => ?_]
  rw [mem_sortU, ← sgn_mem, hm]
  constructor
  · rintro ⟨c, h1, h2⟩
    have : [x] = [c] := congrArg (fun z : Str => z.cps.toList) h2
    cases this
    exact h1
  · exact fun h => ⟨x, h, rfl⟩
end G
namespace G
open PySem PySem.Spec PyProof.Rows L2
section
variable {P : Program} {w : World} {K : PySem.W.Frag} {mg : Str → Option Value} {base : Heap} {C : Cf}
theorem callee_mk {x qual : Str} {st : Stmt} {f : Addr} {fd : FuncData} {ps : List Str} {j n : Nat} {m} (F : Fun K x qual st f fd) (h : FnOk P w K mg base CX0 j f fd ps (spD C n m)) (hm : mg x = some (.ref f)) (b : Binds K fd ps []) : Callee P w K mg base CX0 C x j n m :=
  ⟨f, fd, ps, h, hm, F.kp, b⟩
theorem fn_fail {k n : Nat} {f : Addr} {fd : FuncData} {ps : List Str} (hn : ps.length = n) : FnOk P w K mg base CX0 k f fd ps (spD C n fun _ _ => .fail) :=
  ⟨fun vs H Q E h => by rw [spD_len vs H Q E h, hn], fun A outer s H args us vs Q E _ _ _ _ h => by
    obtain ⟨W, M, ds, _, _, _, p⟩ := h
    exact p.elim⟩
theorem Callee.mono {x : Str} {j j' n : Nat} {m} (h : Callee P w K mg base CX0 C x j n m) (hj : j ≤ j') : Callee P w K mg base CX0 C x j' n m := by
  obtain ⟨f, fd, ps, F, a, b, c⟩ := h.ex
  exact ⟨f, fd, ps, F.mono hj, a, b, c⟩
/-- the law -/
def spLaw (K : PySem.W.Frag) : Sp := fun vs H Q _ => ∃ (a : Addr) (ns : List Int), vs = [.ref a] ∧ SqL K H a (ns.map V.int) ∧ ns.length ≤ 63 ∧ ∀ H', Q (.bl true) H'
theorem law_imp {k : Nat} {f : Addr} {fd : FuncData} {ps : List Str} {m : List VD → Mem → Res VD} (hK : C.K = K) (F : FnOk P w K mg base CX0 k f fd ps (spD C 1 m)) (h : ∀ ns : List Int, ns.length ≤ 63 → ∃ M, m [.d (.scr ns)] [] = .ok (.d (.bl true)) M) (hT : C.tb = [] := by rfl) (hl' : ∀ b, C.low b = none := by intro _; rfl) : FnOk P w K mg base CX0 k f fd ps (spLaw K) :=
  F.imp fun vs H Q E ⟨a, ns, e, hS, hl, q⟩ => by
    subst e
    obtain ⟨M, e⟩ := h ns hl
    refine ⟨⟨H, []⟩, [], [.d (.scr ns)], ⟨Same.refl _, .nil, rfl, (fun i a m h _ => by cases h), (by rw [hT]; exact fun p hp => by cases hp), (by rw [hT]; exact fun p hp => by cases hp), (fun b o e => by rw [hl'] at e; cases e)⟩, .cons (Rep.scr (by rw [hK]; exact hS)) .nil, rfl, ?_⟩
    rw [e]
    intro W' H' x _ _ r
    cases inv_bl r
    exact q H'
end
section
variable {X : Cx} {C : Cf} {E : XK} {CX : CXT} {k : Nat}
theorem boot_len : bootBuiltins "len" = some (.builtin "len") := by decide +kernel
theorem xb_len {e : Expr} {es : List Expr} {ms : Mx (List VD)} {p pos : Pos} (c : Cxx X C E CX k) (hm : X.mg "len" = none) (ha : PXA X C E (e :: es) ms) (hg : Gl X "len" := by rfl) (he : starEach (e :: es) X.env = (false, eval e X.env) :: starEach es X.env := by rfl) (hpl : (backTo pos (starEach es X.env)).any (·.1) = false := by rfl) : PX X C E (.Call (.Name "len" p) (e :: es) [] pos) (e_bi f_len ms) :=
  x_bi call_len (by rw [← c.K]; exact p_len) hm boot_len ha hg (by decide) (by decide) he hpl
theorem boot_all : bootBuiltins "all" = some (.builtin "all") := by decide +kernel
theorem xb_all {e : Expr} {es : List Expr} {ms : Mx (List VD)} {p pos : Pos} (c : Cxx X C E CX k) (hm : X.mg "all" = none) (ha : PXA X C E (e :: es) ms) (hg : Gl X "all" := by rfl) (he : starEach (e :: es) X.env = (false, eval e X.env) :: starEach es X.env := by rfl) (hpl : (backTo pos (starEach es X.env)).any (·.1) = false := by rfl) : PX X C E (.Call (.Name "all" p) (e :: es) [] pos) (e_bi (f_bls fun bs => bs.all id) ms) :=
  x_bi (cr_all c.calm) (by rw [← c.K]; exact p_all) hm boot_all ha hg (by decide) (by decide) he hpl
theorem boot_abs : bootBuiltins "abs" = some (.builtin "abs") := by decide +kernel
theorem xb_abs {e : Expr} {es : List Expr} {ms : Mx (List VD)} {p pos : Pos} (c : Cxx X C E CX k) (hm : X.mg "abs" = none) (ha : PXA X C E (e :: es) ms) (hg : Gl X "abs" := by rfl) (he : starEach (e :: es) X.env = (false, eval e X.env) :: starEach es X.env := by rfl) (hpl : (backTo pos (starEach es X.env)).any (·.1) = false := by rfl) : PX X C E (.Call (.Name "abs" p) (e :: es) [] pos) (e_bi f_abs ms) :=
  x_bi call_abs p_abs hm boot_abs ha hg (by decide) (by decide) he hpl
theorem boot_int : bootBuiltins "int" = some (.type "int") := by decide +kernel
theorem xb_int {e : Expr} {es : List Expr} {ms : Mx (List VD)} {p pos : Pos} (c : Cxx X C E CX k) (hm : X.mg "int" = none) (ha : PXA X C E (e :: es) ms) (hg : Gl X "int" := by rfl) (he : starEach (e :: es) X.env = (false, eval e X.env) :: starEach es X.env := by rfl) (hpl : (backTo pos (starEach es X.env)).any (·.1) = false := by rfl) : PX X C E (.Call (.Name "int" p) (e :: es) [] pos) (e_bi f_int ms) :=
  x_ty call_int1 p_int hm boot_int ha hg (by decide) (by decide) he hpl
theorem boot_list : bootBuiltins "list" = some (.type "list") := by decide +kernel
theorem xb_list {e : Expr} {es : List Expr} {ms : Mx (List VD)} {p pos : Pos} (c : Cxx X C E CX k) (hm : X.mg "list" = none) (ha : PXA X C E (e :: es) ms) (hg : Gl X "list" := by rfl) (he : starEach (e :: es) X.env = (false, eval e X.env) :: starEach es X.env := by rfl) (hpl : (backTo pos (starEach es X.env)).any (·.1) = false := by rfl) : PX X C E (.Call (.Name "list" p) (e :: es) [] pos) (e_bi f_list ms) :=
  x_ty (call_list_all c.calm) (by rw [← c.K]; exact p_list) hm boot_list ha hg (by decide) (by decide) he hpl
theorem x_callR {j n : Nat} {m} {x : Str} {e : Expr} {es : List Expr} {ms : Mx (List VD)} {p pos : Pos} (c : Cxx X C E CX k) (F : Callee X.prog X.w X.K X.mg X.base CX C x j n m) (ha : PXA X C E (e :: es) ms) (hj : j ≤ k := by omega) (hg : Gl X x := by rfl)
    (hdb : (x == ("__debug__" : Str)) = false := by decide) (he : starEach (e :: es) X.env = (false, eval e X.env) :: starEach es X.env := by rfl) (hpl : (backTo pos (starEach es X.env)).any (·.1) = false := by rfl) :
    PX X C E (.Call (.Name x p) (e :: es) [] pos) (e_call n m ms) := x_call c F ha hj hg hdb he hpl
end
end G
namespace G
open PySem PySem.Spec PyProof.Rows L2
section
variable {X : Cx} {C : Cf} {E : XK} {CX : CXT} {k : Nat}
def TSO (P : Program) (w : World) (a : Addr) (l : List Str) : HO := .ext fun h => TS P w h a l
theorem tso_new {P : Program} {w : World} {H : Hp} {h : Heap} {a : Addr} {l : List Str} (R : TS P w h a l) : ObjOk P w H h a (TSO P w a l) := by
  have ⟨_, ho, _⟩ := R
  exact ⟨R, ⟨_, ho⟩, fun h1 h2 p k => TS.at p k⟩
theorem tso_get {pins : List (Addr × Obj)} {σ : L2.St} {H : Hp} {s : Shared} {a : Addr} {l : List Str} (I : Inv X pins σ H s) (ha : H a = some (TSO X.prog X.w a l)) : TS X.prog X.w s.heap a l := (I.hok a _ ha).1
def rSetTx (P : Program) (w : World) : List V → Hp → VK → Prop := fun xs H Q => ∃ s : List Nat, xs = [.str (enc s)] ∧ s.length < 63 ∧ ∀ p l, H p = none → l.length ≤ s.length → (∀ k, k ∈ l ↔ ∃ c ∈ s, k = ⟨#[c]⟩) → Q (.ref p) (upd H p (TSO P w p l))
theorem cr_setTx (hc : X.calm = true) : CallR X (.type "set") (rSetTx X.prog X.w) := by
  intro pins s σ H xs us Q I r h
  obtain ⟨z, rfl, hz, q⟩ := h
  obtain ⟨u, rfl, t, rfl⟩ := vals1 r
  have e1 : (enc z).cps.size = z.length := by simp [enc]
  have e2 : (enc z).cps.toList = z := by simp [enc]
  have hn : H s.heap.objs.size = none := I.hok.fresh (Nat.le_refl _)
  refine call_set_txt (P := X.prog) (w := X.w) (I.ok.hd hc) (by
    have h2 : 64 ≤ scanBound := by decide
    omega) fun h' tk l R hl hm k => ?_
  rw [e1] at hl
  rw [e2] at hm
  exact ⟨.ref s.heap.objs.size, _, I.laid (t' := tk) k (Nat.le_refl _) (tso_new R), rfl, q _ l hn hl hm⟩
theorem vals_sgn : ∀ {t : List Nat} {vs : List Value}, StrsAre vs (t.map sgn) → Vals (t.map fun c => V.str ⟨#[c]⟩) vs
  | [], _, .nil => .nil
  | c :: t, _, .cons _ u h => .cons ⟨u, rfl⟩ (vals_sgn h)
def rSortTx (P : Program) (w : World) : List V → Hp → VK → Prop := fun xs H Q => ∃ (a : Addr) (l : List Str) (s : List Nat), xs = [.ref a] ∧ H a = some (TSO P w a l) ∧ l.length < 63 ∧ (∀ k, k ∈ l ↔ ∃ c ∈ s, k = ⟨#[c]⟩) ∧ ∀ p, H p = none → Q (.ref p) (upd H p (.lst ((sortU s).map fun c => V.str ⟨#[c]⟩)))
theorem cr_sortTx (hc : X.calm = true) : CallR X (.builtin "sorted") (rSortTx X.prog X.w) := by
  intro pins s σ H xs us Q I r h
  obtain ⟨a, l, z, rfl, ha, hl, hm, q⟩ := h
  rw [Vals.ref1 r]
  refine sorted_ts (tso_get I ha) (I.ok.hd hc) (by omega) fun s' p out c ss k g o hp hg hS pm nd hs => ?_
  have e : ss = (sortU z).map sgn := srt_is (fun k => (pm.mem_iff).trans (hm k)) nd hs
  subst e
  have hlen : ((sortU z).map fun c => V.str ⟨#[c]⟩).length ≤ sizeLine := by
    have := pm.length_eq
    rw [List.length_map] at this ⊢
    rw [sizeLine_eq]
    omega
  have hn : H p = none := I.hok.fresh hp
  have J : Inv X pins σ (upd H p (.lst ((sortU z).map fun c => V.str ⟨#[c]⟩))) { s with heap := s'.heap, gens := s'.gens, drawn := s'.drawn, toks := s'.toks } :=
    I.call (ch := []) (Un.laid k hp hn) (I.hok.laid k hp ⟨hlen, out.toList, c, vals_sgn hS, hg⟩) (by rw [g]; exact I.bare) (fun _ z => nomatch z)
  have e : s' = { s with heap := s'.heap, gens := s'.gens, drawn := s'.drawn, toks := s'.toks } := by
    cases s'
    cases s
    cases o
    rfl
  rw [e]
  exact ⟨.ref p, _, J, rfl, q p hn⟩
/-- sorted(set(text)) -/
def f_srt : List VD → Mem → Res VD
  | [.d (.str s)], M => if s.length < 63 then .ok (.d (.lst ((sortU s).map fun c => .str [c]))) M else .fail
  | _, _ => .fail
theorem boot_sorted : bootBuiltins "sorted" = some (.builtin "sorted") := by decide +kernel
theorem boot_set : bootBuiltins "set" = some (.type "set") := by decide +kernel
theorem xb_srt {e : Expr} {m : Mx VD} {p p2 q pos : Pos} (c : Cxx X C E CX k) (hm : X.mg "sorted" = none) (hm2 : X.mg "set" = none) (ha : PX X C E e m) (hg : Gl X "sorted" := by rfl) (hg2 : Gl X "set" := by rfl)
    (he : starEach [e] X.env = [(false, eval e X.env)] := by rfl) (he2 : starEach [.Call (.Name "set" p2) [e] [] q] X.env = [(false, eval (.Call (.Name "set" p2) [e] [] q) X.env)] := by rfl) : PX X C E (.Call (.Name "sorted" p) [.Call (.Name "set" p2) [e] [] q] [] pos) (e_bi f_srt (a_cons m a_nil)) := by
  obtain ⟨ta, pa, sa⟩ := xa_cons ha xa_nil he
  refine ⟨_, pe_callB (cr_sortTx c.calm) hg hm boot_sorted (pa_cons (pe_callTy (cr_setTx c.calm) hg2 hm2 boot_set pa (by decide) (by decide) he) pa_nil he2) (by decide) (by decide) he2 , fun W σ H ρ M Q ok sl p => ?_⟩
  refine sa W σ H ρ M _ ok sl (post_bind p fun vs M1 W1 H1 x l1 ok1 ra p1 => ?_)
  unfold f_srt at p1
  split at p1
  · obtain ⟨y, rfl, r⟩ := ra.one
    cases inv_str r
    split at p1
    · rename_i s hs
      refine ⟨_, rfl, hs, fun a l ha hl hm => ⟨a, l, _, rfl, upd_same, by omega, hm, fun b hb => ?_⟩⟩
      have ok2 : Ok C W1 (upd H1 a (TSO X.prog X.w a l)) M1 := ok1.grow (same_upd ha)
      obtain ⟨ok3, l3⟩ := ok2.new (o := .lst ((sortU s).map fun c => V.str ⟨#[c]⟩)) hb
      exact p1 _ _ _ ((Step.grow ha).trans (Step.new ok2 hb)) ok3 (Rep.lst (by show upd W1.B b _ b = _; rw [upd_same]) (repA_chars _))
    · exact p1.elim
  · exact p1.elim
def f_rev : VD → Mem → Res VD
  | .d (.str s), M => if s.length ≤ lim then .ok (.d (.str s.reverse)) M else .fail
  | _, _ => .fail
def e_rev (m : Mx VD) : Mx VD := fun ρ M => (m ρ M).bind f_rev
def f_addO (a b : VD) (M : Mem) : Res VD := match lstOf M a, lstOf M b with
  | some s, some t => if s.length + t.length ≤ lim then .ok (.adr M.length) (M ++ [.lst (s ++ t)]) else .fail
  | _, _ => .fail
end
end G
namespace G
open PySem PySem.Spec PyProof.Rows L2
/-- where f stands among the names -/
def ixOf (f : Str) : List Str → Option Nat
  | [] => none
  | g :: r => if g = f then some 0 else (ixOf f r).map (· + 1)
theorem zip_lookup {f : Str} : ∀ {ns : List Str} {i : Nat} (vs : List V), ixOf f ns = some i → (ns.zip vs).lookup f = vs[i]?
  | [], _, _, h => by cases h
  | g :: r, i, [], h => by simp
  | g :: r, i, v :: vs, h => by
    unfold ixOf at h
    by_cases e : g = f
    · rw [if_pos e] at h
      cases h
      subst e
      simp [List.lookup]
    · rw [if_neg e] at h
      cases q : ixOf f r with
      | none => rw [q] at h; cases h
      | some j =>
        rw [q] at h
        cases h
        have ne : (f == g) = false := by
          rw [beq_eq_false_iff_ne]
          exact fun z => e z.symm
        simp only [List.zip_cons_cons, List.lookup, ne, List.getElem?_cons_succ]
        exact zip_lookup vs q
theorem zip_none {f : Str} : ∀ {ns : List Str} (vs : List V), ixOf f ns = none → (ns.zip vs).lookup f = none
  | [], _, _ => by simp
  | g :: r, [], h => by simp
  | g :: r, v :: vs, h => by
    unfold ixOf at h
    by_cases e : g = f
    · rw [if_pos e] at h
      cases h
    · rw [if_neg e] at h
      have ne : (f == g) = false := by
        rw [beq_eq_false_iff_ne]
        exact fun z => e z.symm
      simp only [List.zip_cons_cons, List.lookup, ne]
      refine zip_none vs ?_
      cases q : ixOf f r with
      | none => rfl
      | some j => rw [q] at h; cases h
theorem zip_put {f : Str} {v : V} : ∀ {ns : List Str} {i : Nat} (vs : List V), ixOf f ns = some i → i ≤ vs.length → vs.length ≤ ns.length → putF f v (ns.zip vs) = ns.zip (if i < vs.length then vs.set i v else vs ++ [v])
  | [], _, _, h, _, _ => by cases h
  | g :: r, i, [], h, hi, _ => by
    have hi : i = 0 := by simpa using hi
    subst hi
    unfold ixOf at h
    by_cases e : g = f
    · subst e
      simp [putF]
    · rw [if_neg e] at h
      cases q : ixOf f r with
      | none => rw [q] at h; cases h
      | some j => rw [q] at h; cases h
  | g :: r, i, w :: vs, h, hi, hl => by
    unfold ixOf at h
    by_cases e : g = f
    · rw [if_pos e] at h
      cases h
      subst e
      simp [putF]
    · rw [if_neg e] at h
      cases q : ixOf f r with
      | none => rw [q] at h; cases h
      | some j =>
        rw [q] at h
        cases h
        have ih := zip_put (v := v) vs q (by simpa using hi) (by simpa using hl)
        simp only [List.zip_cons_cons, putF, if_neg e, ih, List.length_cons, Nat.add_lt_add_iff_right, List.set_cons_succ]
        split <;> simp
/-- the class c has the field f, at place i -/
structure Fld (C : Cf) (f : Str) (c i : Nat) : Prop where
  cl : Cls C.K (C.ca c)
  na : NoAttr C.K (C.ca c) f
  ix : ixOf f (C.nm c) = some i
section
variable {X : Cx} {C : Cf} {E : XK} {CX : CXT} {k : Nat}
def f_fld (tab : Nat → Option Nat) (v : VD) (M : Mem) : Res VD := match v with
  | .d (.obj c fs) => match tab c with
    | some i => match fs[i]? with
      | some d => .ok (.d d) M
      | none => .fail
    | none => .fail
  | .adr j => match M[j]? with
    | some (.ins c fs) => match tab c with
      | some i => match fs[i]? with
        | some d => .ok d M
        | none => .fail
      | none => .fail
    | _ => .fail
  | _ => .fail
def e_fld (tab : Nat → Option Nat) (m : Mx VD) : Mx VD := fun ρ M => (m ρ M).bind (f_fld tab)
theorem x_fld {tab : Nat → Option Nat} {e : Expr} {f : Str} {m : Mx VD} {pos : Pos} (hK : C.K = X.K) (hf : ∀ c i, tab c = some i → Fld C f c i) (h : PX X C E e m) (hb : attributeBase e f X.env (eval e X.env) = eval e X.env := by rfl) : PX X C E (.Attribute e f pos) (e_fld tab m) := by
  obtain ⟨te, pe, se⟩ := h
  refine ⟨_, pe_fld pe hb, fun W σ H ρ M Q ok sl p => se W σ H ρ M _ ok sl (post_bind p fun v M1 W1 H1 x l1 ok1 ra p1 => ?_)⟩
  unfold f_fld at p1
  split at p1
  · rename_i c fs
    split at p1
    · rename_i i e1
      split at p1
      · rename_i d e2
        obtain ⟨q1, q2, q3⟩ := hf c i e1
        cases (show Rep C W1.B x (.obj c fs) from ra) with
        | obj h1 h2 h3 =>
          obtain ⟨y, h4, h5⟩ := h3.get e2
          exact ⟨_, _, _, _, y, rfl, ok1.sub _ _ h1, by rw [← hK]; exact q1, by rw [← hK]; exact q2, by rw [zip_lookup _ q3]; exact h4, post_ok p1 ok1 h5⟩
      · exact p1.elim
    · exact p1.elim
  · rename_i j
    split at p1
    · rename_i c fs e0
      split at p1
      · rename_i i e1
        split at p1
        · rename_i d e2
          obtain ⟨q1, q2, q3⟩ := hf c i e1
          obtain ⟨a, rfl, ha⟩ := ra
          obtain ⟨_, dx, vs, h1, h2, h3⟩ := ok1.mo j a _ ha e0
          obtain ⟨y, h4, h5⟩ := h3.get e2
          exact ⟨_, _, _, _, y, rfl, h1, by rw [← hK]; exact q1, by rw [← hK]; exact q2, by rw [zip_lookup _ q3]; exact h4, p1 _ _ _ (Step.refl _ _) ok1 h5⟩
        · exact p1.elim
      · exact p1.elim
    · exact p1.elim
  · exact p1.elim
theorem ixOf_lt {f : Str} : ∀ {ns : List Str} {i : Nat}, ixOf f ns = some i → i < ns.length
  | [], _, h => by cases h
  | g :: r, i, h => by
    unfold ixOf at h
    by_cases e : g = f
    · rw [if_pos e] at h
      cases h
      exact Nat.zero_lt_succ _
    · rw [if_neg e] at h
      cases q : ixOf f r with
      | none => rw [q] at h; cases h
      | some j =>
        rw [q] at h
        cases h
        have := ixOf_lt q
        simpa using this
theorem RepVA.set {W : Wd} {v : V} {d : VD} (h : RepV C W v d) : ∀ {vs : List V} {ds : List VD} (i : Nat), RepVA C W vs ds → RepVA C W (vs.set i v) (ds.set i d)
  | _, _, _, .nil => .nil
  | _, _, 0, .cons _ r => .cons h r
  | _, _, i + 1, .cons q r => .cons q (RepVA.set h i r)
/-- o.f = v -/
def f_put (tab : Nat → Option Nat) (v o : VD) (M : Mem) : Res Unit := match o with
  | .adr j => match M[j]? with
    | some (.ins c fs) => match tab c with
      | some i => if i ≤ fs.length then .ok () (M.set j (.ins c (if i < fs.length then fs.set i v else fs ++ [v]))) else .fail
      | none => .fail
    | _ => .fail
  | _ => .fail
def s_fld (tab : Nat → Option Nat) (m o : Mx VD) : Sx := fun ρ M => (m ρ M).out fun v M1 => (o ρ M1).out fun x M2 => (f_put tab v x M2).out fun _ M3 => .nx ρ M3
theorem xs_fld {tab : Nat → Option Nat} {o e : Expr} {f : Str} {m mo : Mx VD} {p' pos : Pos} (hK : C.K = X.K) (hf : ∀ c i, tab c = some i → Fld C f c i) (hn : ∀ c, (C.nm c).length < 1000) (h : PX X C E e m) (ho : PX X C E o mo) (hs : swapsWith e (some (.Attribute o f p')) pos.line X.env = pure false := by rfl) : PXS X C E (.Assign [.Attribute o f p'] e pos) (s_fld tab m mo) := by
  obtain ⟨t, pt, st⟩ := h
  obtain ⟨to, po, so⟩ := ho
  refine ⟨_, ps_fld po pt hs, fun W σ H ρ M D ok sl p => ?_⟩
  refine st W σ H ρ M _ ok sl (post_out p fun v M1 W1 H1 vv l1 ok1 rv p1 => ?_)
  refine so W1 σ H1 ρ M1 _ ok1 (sl.mono l1.le) (post_out p1 fun x M2 W2 H2 vx l2 ok2 rx p2 => ?_)
  have rv := rv.mono l2.le
  have sl2 := (sl.mono l1.le).mono l2.le
  unfold f_put at p2
  split at p2
  · rename_i j
    split at p2
    · rename_i c fs e0
      split at p2
      · rename_i i e1
        split at p2
        · rename_i hi
          obtain ⟨q1, q2, q3⟩ := hf c i e1
          obtain ⟨a, rfl, ha⟩ := rx
          obtain ⟨hB, dx, vs, h1, h2, h3⟩ := ok2.mo j a _ ha e0
          have hlen := h3.length
          have hz := zip_put (v := vv) vs q3 (by omega) h2
          refine ⟨a, _, dx, _, rfl, h1, by rw [← hK]; exact q1, by rw [← hK]; exact q2, ?_, ?_⟩
          · rw [List.length_zip]
            have := hn c
            omega
          · rw [hz]
            have lt := ixOf_lt q3
            have ok3 := ok2.write (o := .ins (C.ca c) dx ((C.nm c).zip (if i < vs.length then vs.set i vv else vs ++ [vv]))) (m := .ins c (if i < fs.length then fs.set i v else fs ++ [v])) ha e0 (fun z => by cases z) ⟨hB, dx, _, upd_same, by
              split
              · rw [List.length_set]; exact h2
              · rw [List.length_append]; simp; omega, by
              rw [hlen]
              split
              · exact RepVA.set rv i h3
              · exact h3.append (.cons rv .nil)⟩
            exact p2 _ _ _ (Step.write ha) ok3 sl2
        · exact p2.elim
      · exact p2.elim
    · exact p2.elim
  · exact p2.elim
/-- a def's promise by positional values -/
def spP (C : Cf) (m : List VD → Mem → Res VD) : Sp := fun vs H Q E => ∃ W M ds, Ok C W H M ∧ RepVA C W vs ds ∧ post C (relV C) E Q W H (m ds M)
/-- n values, no other number -/
def ar (n : Nat) (m : List VD → Mem → Res VD) : List VD → Mem → Res VD := fun ds M => if ds.length = n then m ds M else .fail
/-- the defaults dv fill up to n -/
def arD (n : Nat) (dv : List D) (m : List VD → Mem → Res VD) : List VD → Mem → Res VD := fun ds M => if ds.length + dv.length = n then m (ds ++ dv.map .d) M else .fail
section
variable {P : Program} {w : World} {K : PySem.W.Frag} {mg : Str → Option Value} {base : Heap} {CX : CXT} {C : Cf}
theorem cal_mk {j n : Nat} {m} {f : Addr} {fd : FuncData} {ps : List Str} (F : FnOk P w K mg base CX j f fd ps (spD C n m)) (hb : Binds K fd ps []) : FnR P w K mg base CX j f (spP C (ar n m)) :=
  (FnOk.raw F hb .nil).imp fun vs H Q E ⟨W, M, ds, ok, r, p⟩ => by
    unfold ar at p
    rw [List.append_nil]
    split at p
    · rename_i hl
      exact ⟨W, M, ds, ok, r, hl, p⟩
    · exact p.elim
theorem repA_d {W : Wd} : ∀ {vs : List V} {ds : List D}, RepA C W.B vs ds → RepVA C W vs (ds.map .d)
  | _, _, .nil => .nil
  | _, _, .cons h r => .cons (d := .d _) h (repA_d r)
theorem cal_dfl {j n : Nat} {m} {f : Addr} {fd : FuncData} {ps : List Str} {ds0 : List Value} {dvs : List V} {dv : List D} (F : FnOk P w K mg base CX j f fd ps (spD C n m)) (hb : Binds K fd ps ds0) (hd : Vals dvs ds0) (hr : ∀ B, RepA C B dvs dv) : FnR P w K mg base CX j f (spP C (arD n dv m)) :=
  (FnOk.raw F hb hd).imp fun vs H Q E ⟨W, M, ds, ok, r, p⟩ => by
    unfold arD at p
    split at p
    · rename_i hl
      exact ⟨W, M, _, ok, r.append (repA_d (hr W.B)), by rw [List.length_append, List.length_map]; exact hl, p⟩
    · exact p.elim
end
structure MethOk (P : Program) (w : World) (K : PySem.W.Frag) (mg : Str → Option Value) (base : Heap) (CX : CXT) (C : Cf) (c : Nat) (x : Str) (j : Nat) (m : List VD → Mem → Res VD) : Prop where
  ex : ∃ f, FnR P w K mg base CX j f (spP C m) ∧ Meth K (C.ca c) x f
  cl : Cls K (C.ca c)
  no : ixOf x (C.nm c) = none
def isC (c : Nat) (M : Mem) (v : VD) : Bool := match v with
  | .d (.obj c' _) => c' == c
  | .adr j => match M[j]? with
    | some (.ins c' _) => c' == c
    | _ => false
  | _ => false
theorem isC_at {c : Nat} {W : Wd} {H : Hp} {M : Mem} {v : V} {d : VD} (ok : Ok C W H M) (r : RepV C W v d) (h : isC c M d = true) : ∃ a dx vs, v = .ref a ∧ H a = some (.ins (C.ca c) dx ((C.nm c).zip vs)) := by
  unfold isC at h
  split at h
  · rename_i c' fs
    have e : c' = c := by simpa using h
    subst e
    cases (show Rep C W.B v (.obj c' fs) from r) with
    | obj h1 h2 h3 => exact ⟨_, _, _, rfl, ok.sub _ _ h1⟩
  · rename_i j
    obtain ⟨a, rfl, ha⟩ := r
    split at h
    · rename_i c' fs e0
      have e : c' = c := by simpa using h
      subst e
      obtain ⟨_, dx, vs, h1, h2, h3⟩ := ok.mo j a _ ha e0
      exact ⟨a, dx, vs, rfl, h1⟩
    · cases h
  · cases h
def e_meth (c : Nat) (m : List VD → Mem → Res VD) (mo : Mx VD) (ms : Mx (List VD)) : Mx VD := fun ρ M => (mo ρ M).bind fun x M1 => if isC c M1 x then (ms ρ M1).bind fun vs M2 => m (x :: vs) M2 else .fail
theorem x_meth {c j : Nat} {m} {x : Str} {o e : Expr} {es : List Expr} {mo : Mx VD} {ms : Mx (List VD)} {p pos : Pos} {pl : PySem.Sem Bool} (cx : Cxx X C E CX k) (F : MethOk X.prog X.w X.K X.mg X.base CX C c x j m) (ho : PX X C E o mo) (ha : PXA X C E (e :: es) ms) (hj : j ≤ k := by decide)
    (hst : starEach (e :: es) X.env = (false, eval e X.env) :: starEach es X.env := by rfl) (hpl : (backTo pos (starEach es X.env)).any (·.1) = false := by rfl)
    (ht : eval (.Call (.Attribute o x p) (e :: es) [] pos) X.env = (do
      let ov ← eval o X.env
      standAt p.atName
      let (f, first) ← holding [ov] (getMethod ov x pl)
      callWith pos f first (backTo pos (starEach (e :: es) X.env)) (backToKw pos (keywordEach [] X.env))) := by rfl) :
    PX X C E (.Call (.Attribute o x p) (e :: es) [] pos) (e_meth c m mo ms) := by
  obtain ⟨⟨f, F, hm⟩, hc, hno⟩ := F
  obtain ⟨to, po, so⟩ := ho
  obtain ⟨ta, pa, sa⟩ := ha
  refine ⟨_, pe_methR po hc hm F (cx.hr.mono hj) cx.pas pa hst hpl ht, fun W σ H ρ M Q ok sl p => ?_⟩
  refine so W σ H ρ M _ ok sl (post_bind p fun v M1 W1 H1 vv l1 ok1 rv p1 => ?_)
  split at p1
  · rename_i hi
    obtain ⟨a, dx, vs, rfl, h1⟩ := isC_at ok1 rv hi
    exact ⟨a, dx, _, rfl, h1, zip_none vs hno, sa W1 σ H1 ρ M1 _ ok1 (sl.mono l1.le) (post_bind p1 fun ws M2 W2 H2 y l2 ok2 rw p2 => ⟨W2, M2, _, ok2, .cons (rv.mono l2.le) rw, p2⟩)⟩
  · exact p1.elim
def tMethR0 (C : Addr) (m : Str) (sp : Sp) (E : XK) (ta : TE) : TE := fun σ H Q => ta σ H fun x H1 => ∃ a dx fs, x = .ref a ∧ H1 a = some (.ins C dx fs) ∧ fs.lookup m = none ∧ sp [x] H1 Q E
theorem x_meth0 {c j : Nat} {m} {x : Str} {o : Expr} {mo : Mx VD} {p pos : Pos} {pl : PySem.Sem Bool} (cx : Cxx X C E CX k) (F : MethOk X.prog X.w X.K X.mg X.base CX C c x j m) (ho : PX X C E o mo) (hj : j ≤ k := by decide)
    (ht : eval (.Call (.Attribute o x p) [] [] pos) X.env = (do
      let ov ← eval o X.env
      standAt p.atName
      let (f, first) ← holding [ov] (getMethod ov x pl)
      callWith pos f first (backTo pos (starEach [] X.env)) (backToKw pos (keywordEach [] X.env))) := by rfl) :
    PX X C E (.Call (.Attribute o x p) [] [] pos) (e_meth c m mo a_nil) := by
  obtain ⟨⟨f, F, hm⟩, hc, hno⟩ := F
  obtain ⟨to, po, so⟩ := ho
  refine ⟨tMethR0 (C.ca c) x (spP C m) E to, ⟨fun pins s σ H Q I h => ?_⟩, fun W σ H ρ M Q ok sl p => ?_⟩
  · refine PySem.W.methodCall_KW (pl := pl) (thn (po.run pins s σ H _ I h) fun u s1 ⟨x, H1, I1, rx, a, dx, fs, ex, ea, l, q⟩ => ?_) ht
    subst ex
    obtain rfl : u = Value.ref a := rx
    refine getmeth_ok I1 ea hc hm l ?_
    exact PySem.W.callWith_K0 (first := [.ref a]) I1.kIn hm.kp (wpAny_call (run_fnR (us := [.ref a]) (vs := [.ref a]) F (cx.hr.mono hj) cx.pas I1 (.cons rfl .nil) q))
  · refine so W σ H ρ M _ ok sl (post_bind p fun v M1 W1 H1 vv l1 ok1 rv p1 => ?_)
    split at p1
    · rename_i hi
      obtain ⟨a, dx, vs, rfl, h1⟩ := isC_at ok1 rv hi
      exact ⟨a, dx, _, rfl, h1, zip_none vs hno, ⟨W1, M1, [v], ok1, .cons rv .nil, p1⟩⟩
    · exact p1.elim
/-- a class that is made -/
structure MakeOk (P : Program) (w : World) (K : PySem.W.Frag) (mg : Str → Option Value) (base : Heap) (CX : CXT) (C : Cf) (c : Nat) (x : Str) (j : Nat) (m : List VD → Mem → Res VD) : Prop where
  ex : ∃ f, FnR P w K mg base CX j f (spP C m) ∧ Mk K (C.ca c) f
  mg : mg x = some (.ref (C.ca c))
/-- a new instance, then __init__ -/
def mkI (c : Nat) (m : List VD → Mem → Res VD) (vs : List VD) (M : Mem) : Res Unit := (m (.adr M.length :: vs) (M ++ [.ins c []])).bind fun v M1 => match v with
  | .d .non => .ok () M1
  | _ => .fail
/-- it changes no more -/
def frzI (c k j : Nat) (M : Mem) : Res VD := match M[j]? with
  | some (.ins c' fs) => match dats fs with
    | some ds => if c' = c ∧ ds.length = k then .ok (.d (.obj c ds)) (M.set j .dead) else .fail
    | none => .fail
  | _ => .fail
def e_make (c k : Nat) (m : List VD → Mem → Res VD) (ms : Mx (List VD)) : Mx VD := fun ρ M => (ms ρ M).bind fun vs M1 => (mkI c m vs M1).bind fun _ M2 => frzI c k M1.length M2
def e_makeO (c : Nat) (m : List VD → Mem → Res VD) (ms : Mx (List VD)) : Mx VD := fun ρ M => (ms ρ M).bind fun vs M1 => (mkI c m vs M1).bind fun _ M2 => .ok (.adr M1.length) M2
theorem frzI_ok {c k j : Nat} {W : Wd} {H : Hp} {M M2 : Mem} {a : Addr} {d : VD} (hk : (C.nm c).length = k) (ok : Ok C W H M) (ha : W.al[j]? = some a) (h : frzI c k j M = .ok d M2) : ∃ W2, Step W H W2 H ∧ Ok C W2 H M2 ∧ RepV C W2 (.ref a) d := by
  unfold frzI at h
  split at h
  · rename_i c' fs e0
    split at h
    · rename_i ds e1
      split at h
      · rename_i hc
        obtain ⟨rfl, hl⟩ := hc
        cases h
        obtain ⟨hB, dx, vs, h1, h2, h3⟩ := ok.mo j a _ ha e0
        obtain ⟨ok', l⟩ := ok.freeze ha e0 (fun z => by cases z) h1
        have hr := h3.dat e1
        have hv : vs.length = (C.nm c').length := by rw [hr.length, hl, hk]
        exact ⟨_, Step.freeze ha hB, ok', Rep.obj (by show upd W.B a _ a = _; rw [upd_same]) hv (hr.mono l.1)⟩
      · cases h
    · cases h
  · cases h
theorem sem_mkI {c : Nat} {m} {γ δ : Type} {rel2 : Wd → δ → γ → Prop} {Q2 : δ → Hp → Prop} {W : Wd} {H : Hp} {M : Mem} {vs : List V} {ds : List VD} {kk : Unit → Mem → Res γ} (ok : Ok C W H M) (ra : RepVA C W vs ds) {Q : VK} (p : post C rel2 E Q2 W H ((mkI c m ds M).bind kk))
    (hk : ∀ W2 H2 M2 x, Step W H W2 H2 → Ok C W2 H2 M2 → W2.al[M.length]? = some x → post C rel2 E Q2 W2 H2 (kk () M2) → Q (.ref x) H2) :
    ∀ x dx, H x = none → H dx = none → dx ≠ x → spP C m (.ref x :: vs) (upd (upd H dx (.own x)) x (.ins (C.ca c) dx [])) (fun v H2 => v = .non ∧ Q (.ref x) H2) E := fun x dx hx hdx ne => by
  have ok1 : Ok C W (upd H dx (.own x)) M := ok.grow (same_upd hdx)
  have hx1 : upd H dx (.own x) x = none := by rw [upd_ne (Ne.symm ne)]; exact hx
  obtain ⟨ok2, l⟩ := ok1.newM (o := .ins (C.ca c) dx []) (m := .ins c []) hx1 ⟨ok1.notB hx1, dx, [], by rw [upd_same]; simp, Nat.zero_le _, .nil⟩
  have st : Step W H ⟨W.B, W.al ++ [x]⟩ (upd (upd H dx (.own x)) x (.ins (C.ca c) dx [])) := (Step.grow hdx).trans (Step.newM ok1 hx1)
  have hat : (W.al ++ [x])[M.length]? = some x := by rw [← ok.len]; simp
  unfold mkI at p
  refine ⟨_, _, .adr M.length :: ds, ok2, .cons ⟨x, rfl, hat⟩ (ra.mono l), ?_⟩
  have p := post.mono st p
  cases q : m (.adr M.length :: ds) (M ++ [.ins c []]) with
  | fail => rw [q] at p; exact p.elim
  | exc c' fs M1 => rw [q] at p; exact p
  | ok v M1 =>
    rw [q] at p
    intro W2 H2 y s2 ok3 ry
    have p2 := post.mono s2 p
    cases v with
    | adr _ => exact p2.elim
    | d v =>
      cases v with
      | non => exact ⟨inv_non ry, hk W2 H2 M1 x (st.trans s2) ok3 (s2.le.at hat) p2⟩
      | bl _ => exact p2.elim
      | int _ => exact p2.elim
      | str _ => exact p2.elim
      | lst _ => exact p2.elim
      | tup _ => exact p2.elim
      | obj _ _ => exact p2.elim
      | scr _ => exact p2.elim
      | clo _ => exact p2.elim
      | exn _ _ => exact p2.elim
      | pv _ => exact p2.elim
      | dck _ _ => exact p2.elim
      | dcp _ _ => exact p2.elim
theorem x_makeO {c j : Nat} {m} {x : Str} {e : Expr} {es : List Expr} {ms : Mx (List VD)} {p pos : Pos} (cx : Cxx X C E CX k) (F : MakeOk X.prog X.w X.K X.mg X.base CX C c x j m) (ha : PXA X C E (e :: es) ms) (hj : j + 1 ≤ k := by decide) (hg : Gl X x := by rfl)
    (hdb : (x == ("__debug__" : Str)) = false := by decide) (he : starEach (e :: es) X.env = (false, eval e X.env) :: starEach es X.env := by rfl) (hpl : (backTo pos (starEach es X.env)).any (·.1) = false := by rfl) :
    PX X C E (.Call (.Name x p) (e :: es) [] pos) (e_makeO c m ms) := by
  obtain ⟨⟨f, F, M0⟩, hm⟩ := F
  obtain ⟨ta, pa, sa⟩ := ha
  refine ⟨_, StX.pe_makeR M0 F (cx.hr.mono hj) hg hm cx.pas pa hdb he hpl, fun W σ H ρ M Q ok sl p => ?_⟩
  refine sa W σ H ρ M _ ok sl (post_bind p fun vs M1 W1 H1 x l1 ok1 ra p1 => ?_)
  exact sem_mkI ok1 ra p1 fun W2 H2 M2 y s2 ok2 hy p2 => p2 _ _ _ (Step.refl _ _) ok2 ⟨y, rfl, hy⟩
end
end G
namespace G
open PySem PySem.Spec PyProof.Rows L2
section
variable {X : Cx} {C : Cf} {E : XK} {CX : CXT} {k : Nat}
theorem Cxx.sub (c : Cxx X C E CX k) : L2.Sub X k X.A := ⟨c.hr, rfl⟩
def ckStr : VD → Mem → Res VD
  | .d (.str s), M => .ok (.d (.str s)) M
  | _, _ => .fail
def ckBl (neg : Bool) : VD → Mem → Res VD
  | .d (.bl b), M => .ok (.d (.bl (b != neg))) M
  | _, _ => .fail
def f_own (c n : Nat) (m : List VD → Mem → Res VD) (ck : VD → Mem → Res VD) (vs : List VD) (M : Mem) : Res VD := match vs with
  | x :: r => if isC c M x && r.length + 1 == n then (m (x :: r) M).bind ck else .fail
  | [] => .fail
def eqTy (c : Nat) (M : Mem) : VD → Bool
  | .d .non => true
  | .d (.bl _) => true
  | .d (.int _) => true
  | .d (.str _) => true
  | .d (.lst _) => true
  | .d (.tup _) => true
  | .d (.obj c' _) => c' == c
  | .d (.scr _) => false
  | .d (.clo _) => false
  | .d (.exn _ _) => false
  | .d (.pv _) => false
  | .d (.dck _ _) => false
  | .d (.dcp _ _) => false
  | .adr j => match M[j]? with
    | some (.lst _) => true
    | some (.ins c' _) => c' == c
    | _ => false
def f_eqO (c : Nat) (m : List VD → Mem → Res VD) (neg : Bool) (a b : VD) (M : Mem) : Res VD := if eqTy c M b then f_own c 2 m (ckBl neg) [a, b] M else .fail
end
end G
namespace G
open PySem PySem.Spec PyProof.Rows L2
section
variable {X : Cx} {C : Cf} {E : XK} {CX : CXT} {k : Nat}
def f_tup : VD → Mem → Res VD
  | .d (.tup ds), M => .ok (.d (.tup ds)) M
  | a, M => match lstOf M a with
    | some ds => .ok (.d (.tup ds)) M
    | none => .fail
def e_tupO (m : Mx VD) : Mx VD := fun ρ M => (m ρ M).bind f_tup
def e_prop (c : Nat) (m : List VD → Mem → Res VD) (mo : Mx VD) : Mx VD := fun ρ M => (mo ρ M).bind fun x M1 => if isC c M1 x then nox (m [x] M1) else .fail
theorem x_cval {i : Int} {x f : Str} {a : Addr} {mc : Value} {u : Value} {p pos : Pos} (hm : X.mg x = some (.ref a)) (r : ClX.CRead X.K a mc) (v : ClX.CVal X.K a mc f (.int i) u) (hg : Gl X x := by rfl) (hdb : (x == ("__debug__" : Str)) = false := by decide) (hb : attributeBase (.Name x p) f X.env (eval (.Name x p) X.env) = eval (.Name x p) X.env := by rfl) : PX X C E (.Attribute (.Name x p) f pos) (e_c (.int i)) :=
  ⟨_, ClX.pe_cval (pe_glob (v := V.ref a) hg hm rfl hdb) hb, fun W σ H ρ M Q ok sl q => ⟨a, mc, .int i, u, rfl, r, v, post_ok q ok (.int _)⟩⟩
end
end G
namespace G
open PySem PySem.Spec PyProof.Rows L2
section
variable {P : Program} {w : World} {K : PySem.W.Frag} {mg : Str → Option Value} {base : Heap} {C : Cf}
theorem mk_hb {qual : Str} {scope : Scope} {bd : List Stmt} {f : Addr} {N ps : List Str} {k n : Nat} {body : Sx} (S : FnScope N ps scope) (hK : C.K = K)
    (hb : ∀ (cdv : Value) (A : Around) (outer : List PySem.Env) (s : Shared) (H : Hp) (E : XK), Cxx (cxOf CX0 P w K mg base N qual scope f cdv A outer s H E).nox C E0 CX0 k → PXSs (cxOf CX0 P w K mg base N qual scope f cdv A outer s H E).nox C E0 bd body)
    (cdv : Value) (A : Around) (outer : List PySem.Env) (s : Shared) (H : Hp) (vs : List V) (Q : VK) (E : XK) (hr : Room k (A.deeper (envOfC qual scope s.heap.objs.size f cdv))) (h : spD C n (fnM N.length body) vs H Q E) :
    ∃ t, PSs (cxOf CX0 P w K mg base N qual scope f cdv A outer s H E).nox bd t ∧ t { nx := fun _ H' => Q .non H', rt := Q } (start N vs) H := by
  obtain ⟨W, M, ds, ok, r, hl, p⟩ := h
  obtain ⟨t, pt, st⟩ := hb cdv A outer s H E ⟨hK, rfl, S.nd, PassesOwn.never, pass0, fun _ _ _ => pass0, hr, LamX.takes0⟩
  refine ⟨t, pt, st W _ H _ M _ ok (slots_start r) ?_⟩
  unfold fnM nox runF at p
  have fin : ∀ {v : VD} {M1 : Mem}, post C (relV C) E Q W H (trim M.length (.ok v M1)) → ∀ W1 H1 x, Step W H W1 H1 → Ok C W1 H1 M1 → RepV C W1 x v → Q x H1 := fun {v M1} p W1 H1 x s1 ok1 r1 => by
    unfold trim at p
    dsimp only at p
    split at p
    · rename_i hc
      rw [Bool.and_eq_true] at hc
      obtain ⟨s2, ok2⟩ := Ok.take s1 ok1 (Nat.le_of_eq ok.len) hc.2
      exact p _ _ _ s2 ok2 (r1.take hc.1)
    · exact p _ _ _ s1 ok1 r1
  cases q : body (ds.map some ++ List.replicate (N.length - ds.length) none) M with
  | nx ρ M1 =>
    rw [q] at p
    exact fun W1 H1 σ1 s1 ok1 _ => fin (v := .d .non) p W1 H1 _ s1 ok1 (show Rep C W1.B V.non D.non from .non)
  | ret v M1 =>
    rw [q] at p
    exact fin p
  | brk _ _ => rw [q] at p; exact p.elim
  | ct _ _ => rw [q] at p; exact p.elim
  | exc _ _ _ => rw [q] at p; exact p.elim
  | fail => rw [q] at p; exact p.elim
/-- a def with defaults -/
theorem fn_mkD {x qual : Str} {params : Arguments} {bd : List Stmt} {scope : Scope} {dvs : List V} {kws : List (Str × V)} {f : Addr} {fd : FuncData} {N ps : List Str} {k n : Nat} {body : Sx} (F : FunD K x qual params bd scope dvs kws f fd) (S : FnScope N ps scope) (hK : C.K = K) (hn : ps.length = n)
    (hb : ∀ (cdv : Value) (A : Around) (outer : List PySem.Env) (s : Shared) (H : Hp) (E : XK), Cxx (cxOf CX0 P w K mg base N qual scope f cdv A outer s H E).nox C E0 CX0 k → PXSs (cxOf CX0 P w K mg base N qual scope f cdv A outer s H E).nox C E0 bd body) :
    FnOk P w K mg base CX0 (k + 1) f fd ps (spD C n (fnM N.length body)) :=
  F.ok S (fun vs H Q E h => by rw [spD_len vs H Q E h, hn]) fun cdv A outer s H vs Q E hr h => by
    obtain ⟨t, pt, q⟩ := mk_hb S hK hb cdv A outer s H vs Q E hr h
    exact ⟨t, pt.nox, q⟩
/-- n values, then the rest as a tuple -/
def arS (n : Nat) (m : List VD → Mem → Res VD) : List VD → Mem → Res VD := fun ds M => if n ≤ ds.length then match dats (ds.drop n) with
  | some rest => if rest.length ≤ lim then m (ds.take n ++ [.d (.tup rest)]) M else .fail
  | none => .fail
  else .fail
theorem RepVA.takeN {W : Wd} : ∀ {vs : List V} {ds : List VD} (n : Nat), RepVA C W vs ds → RepVA C W (vs.take n) (ds.take n)
  | _, _, 0, _ => .nil
  | _, _, _ + 1, .nil => .nil
  | _, _, n + 1, .cons h r => .cons h (RepVA.takeN n r)
theorem RepVA.dropN {W : Wd} : ∀ {vs : List V} {ds : List VD} (n : Nat), RepVA C W vs ds → RepVA C W (vs.drop n) (ds.drop n)
  | _, _, 0, r => r
  | _, _, _ + 1, .nil => .nil
  | _, _, n + 1, .cons _ r => RepVA.dropN n r
theorem fn_mkS {name qual : Str} {params : Arguments} {bd : List Stmt} {scope : Scope} {f : Addr} {N ps : List Str} {pv : Str} {k n : Nat} {body : Sx} {oc dV kV doc pm cdv ct : Value} {od an : Option Addr} {osl : Array (Option Value)}
    (lk : K.lookup f = some ⟨oc, od, .func (PySem.W.fnOf name qual params bd scope dV kV doc pm an cdv ct), osl⟩) (hcd : PySem.W.codeIn K cdv qual = true) (S : FnScope N (ps ++ [pv]) scope) (hK : C.K = K) (hn : ps.length = n)
    (hbd : ∀ us rest : List Value, us.length = ps.length → bindArgs (PySem.W.fnOf name qual params bd scope dV kV doc pm an cdv ct) ⟨us ++ rest, []⟩ = (newTuple rest >>= fun t => pure (ps.zip us ++ [(pv, t)])))
    (hb : ∀ (cdv : Value) (A : Around) (outer : List PySem.Env) (s : Shared) (H : Hp) (E : XK), Cxx (cxOf CX0 P w K mg base N qual scope f cdv A outer s H E).nox C E0 CX0 k → PXSs (cxOf CX0 P w K mg base N qual scope f cdv A outer s H E).nox C E0 bd body) :
    FnR P w K mg base CX0 (k + 1) f (spP C (arS n (fnM N.length body))) :=
  (StX.fn_star (sp := spD C (n + 1) (fnM N.length body)) lk hcd S StX.cxUp_none hbd fun A outer s H vs Q E hr h => by
    obtain ⟨t, pt, q⟩ := mk_hb S hK hb cdv A outer s H vs Q E hr h
    exact ⟨t, pt.nox, q⟩).imp fun vs H Q E ⟨W, M, ds, ok, r, p⟩ => by
      unfold arS at p
      split at p
      · rename_i hl
        split at p
        · rename_i rest e
          split at p
          · rename_i hz
            have hlen := r.length
            have rr := (r.dropN n).dat e
            refine ⟨vs.take n, vs.drop n, (List.take_append_drop n vs).symm, by rw [List.length_take, hn]; omega, by rw [rr.length]; exact lim_le hz, fun q hq => ?_⟩
            obtain ⟨ok2, l⟩ := ok.new (o := .tup (vs.drop n)) hq
            refine ⟨W.put q (.tup (vs.drop n)), M, _, ok2, ((r.takeN n).mono l).append (.cons (d := .d (.tup rest)) (Rep.tup (.inl (.inl (by show upd W.B q _ q = _; rw [upd_same]))) (rr.mono l.1)) .nil), by rw [List.length_append, List.length_take]; simp; omega, post.mono (Step.new ok hq) p⟩
          · exact p.elim
        · exact p.elim
      · exact p.elim
theorem bind_star3 {B : List Value → PySem.Sem (List (Str × Value))} {p1 p2 p3 pv : Str} (h0 : ∀ a b c, B [a, b, c] = (newTuple [] >>= fun t => pure [(p1, a), (p2, b), (p3, c), (pv, t)])) (h1 : ∀ a b c r rs, B (a :: b :: c :: r :: rs) = (newTuple (r :: rs) >>= fun t => pure [(p1, a), (p2, b), (p3, c), (pv, t)])) :
    ∀ us rest : List Value, us.length = [p1, p2, p3].length → B (us ++ rest) = (newTuple rest >>= fun t => pure ([p1, p2, p3].zip us ++ [(pv, t)]))
  | [a, b, c], [], _ => h0 a b c
  | [a, b, c], r :: rs, _ => h1 a b c r rs
end
section
variable {X : Cx} {C : Cf} {E : XK} {CX : CXT} {k : Nat}
structure StatOk (P : Program) (w : World) (K : PySem.W.Frag) (mg : Str → Option Value) (base : Heap) (CX : CXT) (C : Cf) (c : Nat) (x : Str) (j : Nat) (m : List VD → Mem → Res VD) : Prop where
  ex : ∃ f p mc, FnR P w K mg base CX j f (spP C m) ∧ ClX.CRead K (C.ca c) mc ∧ PySem.W.findCls K (.ref (C.ca c)) mc x = some (.get (.builtin "staticmethod.__get__") (.ref p) .none (.ref (C.ca c))) ∧ (∃ rest, PySem.W.recIn K p "staticmethod" = some (.ref f :: rest)) ∧ PySem.W.keepIn K (.ref f) = true
/-- a call by positional values -/
def e_callP (m : List VD → Mem → Res VD) (ms : Mx (List VD)) : Mx VD := fun ρ M => (ms ρ M).bind m
def tCallP (sp : Sp) (E : XK) (t : TA) : TE := fun σ H Q => t σ H fun vs H1 => sp vs H1 Q E
theorem sem_callP {m} {ta : TA} {ms : Mx (List VD)} (ha : SemA C E ta ms) : Sem C E (tCallP (spP C m) E ta) (e_callP m ms) := fun W σ H ρ M Q ok sl p =>
  ha W σ H ρ M _ ok sl (post_bind p fun vs M1 W1 H1 x l1 ok1 ra p1 => ⟨W1, M1, vs, ok1, ra, p1⟩)
theorem x_stat {c j : Nat} {m} {n x : Str} {e : Expr} {es : List Expr} {ms : Mx (List VD)} {p0 p pos : Pos} {pl : PySem.Sem Bool} (cx : Cxx X C E CX k) (hm : X.mg n = some (.ref (C.ca c))) (F : StatOk X.prog X.w X.K X.mg X.base CX C c x j m) (ha : PXA X C E (e :: es) ms) (hj : j ≤ k := by decide) (hg : Gl X n := by rfl) (hdb : (n == ("__debug__" : Str)) = false := by decide)
    (hst : starEach (e :: es) X.env = (false, eval e X.env) :: starEach es X.env := by rfl) (hpl : (backTo pos (starEach es X.env)).any (·.1) = false := by rfl)
    (ht : eval (.Call (.Attribute (.Name n p0) x p) (e :: es) [] pos) X.env = (do
      let ov ← eval (.Name n p0) X.env
      standAt p.atName
      let (f, first) ← holding [ov] (getMethod ov x pl)
      callWith pos f first (backTo pos (starEach (e :: es) X.env)) (backToKw pos (keywordEach [] X.env))) := by rfl) :
    PX X C E (.Call (.Attribute (.Name n p0) x p) (e :: es) [] pos) (e_callP m ms) := by
  obtain ⟨f, p1, mc, F, hr, hat, ⟨rest, hrc⟩, hkp⟩ := F.ex
  obtain ⟨ta, pa, sa⟩ := ha
  refine ⟨tCallP (spP C m) E ta, ⟨fun pins s σ H Q I h => ?_⟩, sem_callP sa⟩
  refine PySem.W.methodCall_KW (pl := pl) (thn ((pe_glob (pos := p0) (v := V.ref (C.ca c)) hg hm rfl hdb).run pins s σ H (fun v H1 => v = V.ref (C.ca c) ∧ H1 = H) I ⟨rfl, rfl⟩) fun u s1 ⟨y, H1, I1, ry, e1, e2⟩ => ?_) ht
  subst e1 e2
  obtain rfl : u = Value.ref (C.ca c) := ry
  refine PySem.W.method_cls I1.kIn hr.ga (PySem.W.cls_bind I1.kIn hr.rd hat (wpAny_call (PySem.W.sm_get (s := { s1 with toks := s1.toks + 1 }) I1.kIn hrc (PySem.W.handed_on rfl ?_))))
  have I2 : Inv X pins σ H1 { s1 with toks := s1.toks + 1 } := I1.tok _
  exact PySem.W.callWith_K (first := []) (h₀ := X.base) I2.ok.mod.kin hkp (thn (pa.run pos pins _ σ H1 _ I2 h) fun us s3 ⟨vs, H2, I3, rv, q2⟩ => ⟨I3.kIn, wpAny_call (run_fnR (us := us) (vs := vs) F (cx.hr.mono hj) cx.pas I3 rv q2)⟩) hst hpl
end
end G
namespace G
open PySem PySem.Spec PyProof.Rows L2
section
variable {X : Cx} {C : Cf} {E : XK} {CX : CXT} {k : Nat}
def a_star (a : Mx VD) (r : Mx (List VD)) : Mx (List VD) := fun ρ M => (a ρ M).bind fun v M1 => match seqOf M1 v with
  | some ds => (r ρ M1).bind fun vs M2 => .ok (ds.map .d ++ vs) M2
  | none => .fail
theorem xa_star {e : Expr} {es : List Expr} {m : Mx VD} {ms : Mx (List VD)} {p : Pos} (hK : C.K = X.K) (h : PX X C E e m) (hr : PXA X C E es ms) (hs : starEach (.Starred e p :: es) X.env = (true, eval e X.env) :: starEach es X.env := by rfl) : PXA X C E (.Starred e p :: es) (a_star m ms) := by
  obtain ⟨te, pe, se⟩ := h
  obtain ⟨ta, pa, sa⟩ := hr
  refine ⟨_, StX.pa_star pe pa hs, fun W σ H ρ M Q ok sl p => ?_⟩
  refine se W σ H ρ M _ ok sl (post_bind p fun v M1 W1 H1 x l1 ok1 ra p1 => ?_)
  split at p1
  · rename_i ds e1
    obtain ⟨q, vs, rfl, hs, hr⟩ := seq_read ok1 ra e1
    rw [hK] at hs
    exact ⟨q, vs, rfl, hs.symm, sa W1 σ H1 ρ M1 _ ok1 (sl.mono l1.le) (post_bind p1 fun ws M2 W2 H2 y l2 ok2 rw p2 => p2 _ _ _ (Step.refl _ _) ok2 ((repA_d (hr.mono l2.le.1)).append rw))⟩
  · exact p1.elim
theorem x_makeS {c kf j : Nat} {m} {x : Str} {e : Expr} {es : List Expr} {ms : Mx (List VD)} {p pos : Pos} (cx : Cxx X C E CX k) (F : MakeOk X.prog X.w X.K X.mg X.base CX C c x j m) (hk : (C.nm c).length = kf) (ha : PXA X C E (e :: es) ms) (hj : j + 1 ≤ k := by decide) (hg : Gl X x := by rfl)
    (hdb : (x == ("__debug__" : Str)) = false := by decide) (he : starEach (e :: es) X.env = (false, eval e X.env) :: starEach es X.env := by rfl) (hst : (backTo pos (starEach es X.env)).any (·.1) = true := by rfl) :
    PX X C E (.Call (.Name x p) (e :: es) [] pos) (e_make c kf m ms) := by
  obtain ⟨⟨f, F, M0⟩, hm⟩ := F
  obtain ⟨ta, pa, sa⟩ := ha
  refine ⟨StX.tMakeR (C.ca c) (spP C m) E ta, ⟨fun pins s σ H Q I h => ?_⟩, fun W σ H ρ M Q ok sl p => ?_⟩
  · refine wpAny_Call_Name_kw (ld_glob I hg hm ?_ hdb)
    exact PySem.W.callWith_S2 (h₀ := X.base) I.ok.mod.kin M0.kp (thn (pa.run pos pins s σ H _ I h) fun us s1 ⟨vs, H1, I1, r, q⟩ => ⟨I1.kIn, StX.run_makeR M0 F (cx.hr.mono hj) cx.pas I1 r q⟩) he hst
  · refine sa W σ H ρ M _ ok sl (post_bind p fun vs M1 W1 H1 x l1 ok1 ra p1 => ?_)
    refine sem_mkI ok1 ra p1 fun W2 H2 M2 y s2 ok2 hy p2 => ?_
    cases q : frzI c kf M1.length M2 with
    | fail => rw [q] at p2; exact p2.elim
    | exc _ _ _ =>
      unfold frzI at q
      repeat (first | cases q | split at q)
    | ok d M3 =>
      rw [q] at p2
      obtain ⟨W3, s3, ok3, r3⟩ := frzI_ok hk ok2 hy q
      exact p2 _ _ _ s3 ok3 r3
end
end G
namespace G
open PySem PySem.Spec PyProof.Rows L2
/-- an int's figures -/
def itoa (i : Int) : List Nat := (Str.ofString (toString i)).cps.toList
theorem enc_itoa (i : Int) : enc (itoa i) = Str.ofString (toString i) := by
  unfold enc itoa
  rw [Array.toArray_toList]
section
variable {X : Cx} {C : Cf} {E : XK} {CX : CXT} {k : Nat}
noncomputable def f_fmt : VD → Mem → Res VD
  | .d (.str s), M => if s.length ≤ lim then .ok (.d (.str s)) M else .fail
  | .d (.int i), M => gi (i.natAbs.log2 < 1920) (.ok (.d (.str (itoa i))) M) .fail
  | _, _ => .fail
noncomputable def e_fmt (m : Mx VD) : Mx VD := fun ρ M => (m ρ M).bind f_fmt
theorem x_fmt {e : Expr} {m : Mx VD} {pos : Pos} (h : PX X C E e m) : PX X C E (.FormattedValue e (-1) none pos) (e_fmt m) := by
  obtain ⟨te, pe, se⟩ := h
  refine ⟨_, pe_fmt pe, fun W σ H ρ M Q ok sl p => se W σ H ρ M _ ok sl (post_bind p fun v M1 W1 H1 x l1 ok1 ra p1 => ?_)⟩
  unfold f_fmt at p1
  split at p1
  · split at p1
    · rename_i h
      cases inv_str ra
      exact .inl ⟨_, rfl, by rw [enc_len]; exact lim_le h, post_ok p1 ok1 (.str _)⟩
    · exact p1.elim
  · unfold gi at p1
    split at p1
    · rename_i i h
      cases inv_int ra
      refine .inr ⟨_, rfl, h, ?_⟩
      rw [← enc_itoa]
      exact post_ok p1 ok1 (.str _)
    · exact p1.elim
  · exact p1.elim
def relTx : Wd → Str → List Nat → Prop := fun _ x y => x = enc y
/-- the parts of an f-string -/
structure PXJ (X : Cx) (C : Cf) (E : XK) (es : List Expr) (mj : List Nat → Mx (List Nat)) : Prop where
  ex : ∃ ts, PJ X es ts ∧ ∀ W σ H ρ M acc Q, Ok C W H M → Slots C W σ ρ → post C relTx E Q W H (mj acc ρ M) → tJs ts (enc acc) σ H Q
def j_nil : List Nat → Mx (List Nat) := fun acc _ M => .ok acc M
def j_cons (m : Mx VD) (mj : List Nat → Mx (List Nat)) : List Nat → Mx (List Nat) := fun acc ρ M => (m ρ M).bind fun v M1 => match v with
  | .d (.str s) => if acc.length + s.length ≤ lim then mj (acc ++ s) ρ M1 else .fail
  | _ => .fail
theorem xj_nil : PXJ X C E [] j_nil := ⟨[], .nil, fun W σ H ρ M acc Q ok sl p => p W H _ (Step.refl _ _) ok rfl⟩
theorem xj_cons {e : Expr} {es : List Expr} {m : Mx VD} {mj} (h : PX X C E e m) (hr : PXJ X C E es mj) : PXJ X C E (e :: es) (j_cons m mj) := by
  obtain ⟨te, pe, se⟩ := h
  obtain ⟨ts, pj, sj⟩ := hr
  refine ⟨te :: ts, .cons pe pj, fun W σ H ρ M acc Q ok sl p => ?_⟩
  refine se W σ H ρ M _ ok sl (post_bind p fun v M1 W1 H1 x l1 ok1 ra p1 => ?_)
  split at p1
  · split at p1
    · rename_i s h
      cases inv_str ra
      refine ⟨_, rfl, ?_, ?_⟩
      · rw [enc_app, enc_len, List.length_append]
        exact lim_le h
      · rw [enc_app]
        exact sj W1 σ H1 ρ M1 _ Q ok1 (sl.mono l1.le) p1
    · exact p1.elim
  · exact p1.elim
def e_fstr (mj : List Nat → Mx (List Nat)) : Mx VD := fun ρ M => (mj [] ρ M).bind fun s M1 => .ok (.d (.str s)) M1
theorem x_fstr {a b : Expr} {es : List Expr} {mj} {pos : Pos} (h : PXJ X C E (a :: b :: es) mj) : PX X C E (.JoinedStr (a :: b :: es) pos) (e_fstr mj) := by
  obtain ⟨ts, pj, sj⟩ := h
  refine ⟨_, pe_joined pj, fun W σ H ρ M Q ok sl p => ?_⟩
  refine sj W σ H ρ M [] _ ok sl (post_bind p fun s M1 W1 H1 x l1 ok1 ra p1 => ?_)
  cases ra
  exact post_ok p1 ok1 (.str s)
theorem boot_str : bootBuiltins "str" = some (.type "str") := by decide +kernel
/-- str(int) -/
noncomputable def f_str : List VD → Mem → Res VD
  | [.d (.int i)], M => gi (i.natAbs.log2 < 1920) (.ok (.d (.str (itoa i))) M) .fail
  | _, _ => .fail
theorem p_str : CallS C E (fun xs H Q => ∃ i, xs = [.int i] ∧ i.natAbs.log2 < 1920 ∧ Q (.str (toString i)) H) f_str := fun W H M xs as Q ok ra p => by
  unfold f_str at p
  split at p
  · obtain ⟨x, rfl, r⟩ := ra.one
    cases inv_int r
    unfold gi at p
    split at p
    · rename_i i h
      refine ⟨_, rfl, h, ?_⟩
      rw [← enc_itoa]
      exact post_ok p ok (.str _)
    · exact p.elim
  · exact p.elim
theorem xb_str {e : Expr} {es : List Expr} {ms : Mx (List VD)} {p pos : Pos} (hm : X.mg "str" = none) (ha : PXA X C E (e :: es) ms) (hg : Gl X "str" := by rfl) (he : starEach (e :: es) X.env = (false, eval e X.env) :: starEach es X.env := by rfl) (hpl : (backTo pos (starEach es X.env)).any (·.1) = false := by rfl) : PX X C E (.Call (.Name "str" p) (e :: es) [] pos) (e_bi f_str ms) :=
  x_ty call_str_int p_str hm boot_str ha hg (by decide) (by decide) he hpl
end
end G
namespace G
open PySem PySem.Spec PyProof.Rows L2
theorem meets_enum1 {v : Value} {o : Obj} {H : Heap → Prop} (B : Begins v o H) :
    Meets (Builtin.«enumerate.__new__» ⟨[.type "enumerate", v], []⟩) (fun _ R s => H s.heap ∧
      R (.ok (.ret (.ref (s.heap.push o).objs.size))) { s with heap := (s.heap.push o).push { cls := .type "enumerate", data := .fields #[.none, .bool false, .ref s.heap.objs.size, rawInt 0, .none, .none] } }) :=
  .of_wp fun prog w A R s h => by
    obtain ⟨hp, g, d, tk, os⟩ := s
    obtain ⟨h1, h⟩ := h
    have hsub := sub_enumerate
    have q1 : ∀ {A' : Around} {E : Value → Shared → Prop} {Q : Value → Shared → Prop}, Q (.ref hp.objs.size) ⟨hp.push o, g, d, tk, os⟩ → wpAny (model prog w) A' (pyIter v) Q E ⟨hp, g, d, tk, os⟩ := fun q => B.iter prog w _ _ ⟨hp, g, d, tk, os⟩ _ h1 q
    wp_walk using q1
    refine wpAny_stack_any fun st => wpAny_pure ?_
    split
    · rename_i c _ _ _ _ _
      cases (c == Value.type "enumerate") <;> (wp_walk using q1; exact ⟨_, rfl, h⟩)
    · wp_walk using q1
      exact ⟨_, rfl, h⟩
section
variable {prog : Program} {w : World} {A : Around} {E : Value → Shared → Prop} {s : Shared}
theorem call_enum_tup {l : Addr} {items : Array Value} {Q : Value → Shared → Prop} (hL : s.heap.IsTuple l items)
    (h : ∀ h', IsEnum h' (s.heap.objs.size + 1) s.heap.objs.size 0 .none → h'.get? s.heap.objs.size = some { cls := .type "tuple_iterator", data := .fields #[.ref l, .int 0 0] } → h'.objs.size = s.heap.objs.size + 2 → (∀ b o, s.heap.get? b = some o → h'.get? b = some o) → Q (.ref (s.heap.objs.size + 1)) { s with heap := h' }) :
    wpAny (model prog w) A (call (.type "enumerate") [.ref l]) Q E s := by
  refine callType_new F.called_enumerate (by decide) (F.typeCall_enumerate_1 _) (F.newCall_enumerate_1 _) (fun obj => F.args_object_init_2 obj _) F.entry_enumerate_new (meets_enum1 (begins_tuple l items)) ⟨hL, ?_⟩
  have hz : (s.heap.push { cls := .type "tuple_iterator", data := .fields #[.ref l, .int 0 0] }).objs.size = s.heap.objs.size + 1 := Heap.size_push ..
  have he := Heap.get?_push_size (s.heap.push { cls := .type "tuple_iterator", data := .fields #[.ref l, .int 0 0] }) (o := { cls := .type "enumerate", data := .fields #[.none, .bool false, .ref s.heap.objs.size, rawInt 0, .none, .none] }) rfl
  rw [hz] at he
  show _ ∧ _
  rw [hz]
  exact ⟨⟨_, he, rfl⟩, h _ he (Heap.get?_push_of_some _ (Heap.get?_push_size _ rfl)) (by rw [Heap.size_push, hz]) fun b o x => Heap.get?_push_of_some _ (Heap.get?_push_of_some _ x)⟩
end
section
variable {prog : Program} {w : World} {A : Around} {E : Value → Shared → Prop} {s : Shared}
theorem wpAny_pyNext_enum_endU {e it a : Addr} {items : Array Value} {k : Nat} {i : Int} {old : Value} {Q : Option Value → Shared → Prop} (hh : A.handled = none)
    (he : IsEnum s.heap e it i old) (hit : s.heap.IsTupleIter it a k) (ht : s.heap.IsTuple a items) (hx : items[k]? = none)
    (hQ : ∀ h', Heap.ExtBut it s.heap h' → Q none { s with heap := h' }) : wpAny (model prog w) A (pyNext (.ref e)) Q E s := by
  have hT : s.TypeIs (.ref e) "enumerate" := ⟨_, he, rfl⟩
  unfold pyNext
  refine wpAny_bind (wpAny_attempt (wpAny_callSpecial?_slot (name := Str.ofString "__next__") hT F.slot_enumerate_next
    (wpAny_call_entry F.slot_enumerate_next hT F.entry_enumerate_next ?_ (F.args_enumerate_next_1 _))))
  show wpAny _ _ (field (.ref e) 2 >>= _) _ _ _
  refine wpAny_bind (wpAny_field he rfl (x := .ref it) rfl ?_)
  refine wpAny_bind (wpAny_nextOf_tuple_end hh hit ht hx fun h' x he' hx' => ?_)
  obtain ⟨o, ho, hc⟩ := hx'
  refine wpAny_bind (wpAny_isInstance (T := "StopIteration") (b := true) ⟨o, ho, hc⟩ isSubtype_stop ?_)
  exact wpAny_pure (hQ _ he')
end
/-- the tuple at a, each item in a new pair -/
def ItU (K : PySem.W.Frag) (a : Addr) : It :=
  ⟨fun i H => ∃ (xs : List V) (x : V), SqT K H a xs ∧ xs[i]? = some x, fun i H v H' => ∃ T x, v = .ref T ∧ H T = none ∧ H' = upd H T (.tup [.int (i : Nat), x]) ∧ ∀ xs, SqT K H a xs → xs[i]? = some x, fun i H => ∃ xs : List V, SqT K H a xs ∧ xs.length ≤ i⟩
theorem turn_enumU {P : Program} {w : World} {K : PySem.W.Frag} {elts : List Expr} {kk : Nat} {tpos : Pos} (a e it : Addr) :
    Turn P w K (.Tuple elts kk tpos) (ItU K a) [e, it] e (fun i h => (∃ old, IsEnum h e it ((i : Nat) : Int) old) ∧ h.IsTupleIter it a i ∧ e ≠ it ∧ a ≠ e ∧ a ≠ it) where
  mem := by simp
  obj := fun i h st b hb => by
    obtain ⟨⟨old, he⟩, ⟨o, ho, hc, hd⟩, _⟩ := st
    have e' : b = e ∨ b = it := by simpa using hb
    rcases e' with z | z
    · rw [z]; exact ⟨_, he, fun v q => nomatch q⟩
    · rw [z]; exact ⟨o, ho, fun v q => by rw [hd] at q; cases q⟩
  keep := fun i h h' st k => let ⟨⟨old, he⟩, hi, hne⟩ := st; ⟨⟨old, k e (by simp) _ he⟩, hi.at fun o q => k it (by simp) o q, hne⟩
  item := by
    intro X hP hw hK hc i pins s σ H E I hf st hg
    subst hP hw hK
    obtain ⟨⟨old, he⟩, hit, hne, hae, hai⟩ := st
    obtain ⟨xs, x, hq, hx⟩ := hg
    obtain ⟨its, rv, p, hz⟩ := I.tuple hq
    obtain ⟨u, hu, ru⟩ := rv.get hx
    have hel : e < s.heap.objs.size := Heap.lt_size he
    have hil : it < s.heap.objs.size := by obtain ⟨_, q, _⟩ := hit; exact Heap.lt_size q
    have hp : s.heap.IsTuple a its.toArray := p
    have hh : X.A.in1.handled = none := I.ok.hd hc
    refine wpAny_pyNext_enum_itemD (Draws.tuple hh it a hai its.toArray) he ⟨hit, hp⟩ (by obtain ⟨hlt, _⟩ := List.getElem?_eq_some_iff.1 hu; simpa using hlt) hne (by simp [Ne.symm hae, hne]) fun x' h' tk hP ho hst' hT hsz hk => ?_
    obtain rfl : x' = u := by simpa [hu] using hP.symm
    refine ⟨_, rfl, wpAny_letOwnedTupleGo_enum (s := { s with heap := h', toks := tk + 1 }) ho fun h'' he' sb => ?_⟩
    have hT2 : h''.get? s.heap.objs.size = some { cls := .type "tuple", data := .seq #[.int i tk, x'] } := (sb.2 _ (Nat.ne_of_gt hel)).trans hT
    have new : ObjOk X.prog X.w (upd H s.heap.objs.size (.tup [.int (i : Nat), x])) h'' s.heap.objs.size (.tup [.int (i : Nat), x]) :=
      ⟨by show 2 ≤ sizeLine; decide, [.int i tk, x'], .cons ⟨_, rfl⟩ (.cons ru .nil), ⟨_, hT2, rfl, _, rfl⟩⟩
    have I1 : Inv X pins σ (upd H s.heap.objs.size (.tup [.int (i : Nat), x])) { s with heap := h'', toks := tk + 1 } :=
      I.turnedNew (ch := [e, it]) (fun b ob hb q => (sb.2 b (fun z => hb (by simp [z]))).trans (hk b ob (fun z => hb (by simp [z])) (fun z => hb (by simp [z])) q)) hf (Nat.le_refl _) new
    refine ⟨.ref s.heap.objs.size, _, I1, rfl, ⟨_, x, rfl, I.hok.fresh (Nat.le_refl _), rfl, fun ys hy => by rw [I.tuple_inj hy hq]; exact hx⟩, ⟨⟨x', ?_⟩, hst'.1.at fun o q => (sb.2 it (Ne.symm hne)).trans q, hne, hae, hai⟩, fun b hb => ?_⟩
    · have e1 : ((i + 1 : Nat) : Int) = (i : Int) + 1 := by omega
      rw [e1]; exact he'
    · have hb' : b < s.heap.objs.size := by
        have e' : b = e ∨ b = it := by simpa using hb
        rcases e' with z | z
        · rw [z]; exact hel
        · rw [z]; exact hil
      rw [upd_ne (Nat.ne_of_lt hb')]
      exact (hf b hb).1
  done := by
    intro X hP hw hK hc i pins s σ H E I hf st hg
    subst hP hw hK
    obtain ⟨⟨old, he⟩, hit, hne, hae, hai⟩ := st
    obtain ⟨xs, hq, hx⟩ := hg
    obtain ⟨its, rv, p, hz⟩ := I.tuple hq
    obtain ⟨f0, f1, f2, f3, f4, f5⟩ := hf it (by simp)
    have hl := rv.length
    exact wpAny_pyNext_enum_endU (I.ok.hd hc) he hit (show s.heap.IsTuple a its.toArray from p) (by simp; omega) fun h' eb => ⟨rfl, I.turned (t' := s.toks) (fun b o hb q => eb b o hb q) f0 f1 f3 f4 f5⟩
  self := fun A i s Q E st h => let ⟨⟨_, he⟩, _⟩ := st; wpAny_pyIter_enum he h
def iEnumU (K : PySem.W.Frag) (ta : TA) : TI := fun σ H R => ta σ H fun vs H1 => ∃ a xs, vs = [.ref a] ∧ SqT K H1 a xs ∧ R (ItU K a) H1
theorem pi_enumU {X : Cx} {e : Expr} {ta : TA} {p pos tpos : Pos} {elts : List Expr} {kk : Nat} (hg : Gl X "enumerate") (hm : X.mg "enumerate" = none) (ha : PA X [e] ta) (hs : starEach [e] X.env = [(false, eval e X.env)] := by rfl) :
    PI X (.Tuple elts kk tpos) (.Call (.Name "enumerate" p) [e] [] pos) (iEnumU X.K ta) := by
  refine ⟨fun pins s σ H R I h => ?_⟩
  refine Call_ (ld_blt I hg hm boot_enumerate (PyProof.Rows.callWith_type1 (thn (ha.run pos pins s σ H _ I h) fun us s1 ⟨vs, H1, I1, r1, q1⟩ => ?_) hs rfl))
  obtain ⟨a, xs, ex, hq, q⟩ := q1
  subst ex
  cases r1 with
  | cons r rr =>
    cases rr
    cases r
    obtain ⟨its, rv, p', hz⟩ := I1.tuple hq
    have hal : a < s1.heap.objs.size := by obtain ⟨_, q', _⟩ := p'; exact Heap.lt_size q'
    refine call_enum_tup (items := its.toArray) p' fun h' he hit hsz hk => wpAny_pyIter_enum he ?_
    have I2 : Inv X pins σ H1 { s1 with heap := h' } := I1.kept (t' := s1.toks) hk
    refine ⟨s1.heap.objs.size + 1, [s1.heap.objs.size + 1, s1.heap.objs.size], _, _, H1, rfl, I2, turn_enumU a (s1.heap.objs.size + 1) s1.heap.objs.size, ⟨⟨.none, he⟩, ⟨_, hit, rfl, rfl⟩, Nat.succ_ne_self _, Nat.ne_of_lt (Nat.lt_succ_of_lt hal), Nat.ne_of_lt hal⟩, fun b hb => ?_, q⟩
    have e' : b = s1.heap.objs.size + 1 ∨ b = s1.heap.objs.size := by simpa using hb
    have hle : s1.heap.objs.size ≤ b := by
      rcases e' with z | z
      · rw [z]; exact Nat.le_add_right _ _
      · rw [z]; exact Nat.le_refl _
    exact I1.fpOk hle (I1.hok.fresh hle)
section
variable {X : Cx} {C : Cf} {E : XK}
theorem walks_enumU {W : Wd} {a : Addr} {vs : List V} {ds : List D} (h : SqT C.K W.B a vs) (r : RepA C W.B vs ds) : Walks C (ItU C.K a) (enumL ds 0) W where
  go := fun i W2 H M l ok hi => by
    rw [enumL_len] at hi
    obtain ⟨d, hd⟩ : ∃ d, ds[i]? = some d := ⟨ds[i], List.getElem?_eq_getElem hi⟩
    obtain ⟨v, hv, _⟩ := r.get hd
    exact ⟨vs, v, sqT_sub ok.sub (sqT_sub l.1 h), hv⟩
  yld := fun i W2 H M x H' l ok hi y => by
    rw [enumL_len] at hi
    obtain ⟨d, hd⟩ : ∃ d, ds[i]? = some d := ⟨ds[i], List.getElem?_eq_getElem hi⟩
    obtain ⟨v, hv, rv⟩ := r.get hd
    obtain ⟨T, z, rfl, hT, rfl, y⟩ := y
    have e2 := y vs (sqT_sub ok.sub (sqT_sub l.1 h))
    rw [hv] at e2
    cases e2
    obtain ⟨ok', l'⟩ := ok.new (o := .tup [.int (i : Nat), v]) hT
    refine ⟨_, .tup [.int ((0 + i : Nat) : Int), d], by rw [enumL_get, hd] <;> rfl, Step.new ok hT, ok', ?_⟩
    rw [Nat.zero_add]
    exact rep_tup2 (by show upd W2.B T _ T = _; rw [upd_same]) (.int _) (rv.mono (l.trans l').1)
  stop := fun i W2 H M l ok hi => ⟨vs, sqT_sub ok.sub (sqT_sub l.1 h), by rw [r.length]; rw [enumL_len] at hi; exact hi⟩
/-- enumerate over a tuple -/
def i_enumU (ms : Mx (List VD)) : Mx (List D) := fun ρ M => (ms ρ M).bind fun vs M1 => match vs with
  | [.d (.tup ds)] => .ok (enumL ds 0) M1
  | _ => .fail
theorem xi_enumU {e : Expr} {ms : Mx (List VD)} {elts : List Expr} {kk : Nat} {tpos p pos : Pos} (hK : C.K = X.K) (hm : X.mg "enumerate" = none) (h : PXA X C E [e] ms) (hg : Gl X "enumerate" := by rfl) (hs : starEach [e] X.env = [(false, eval e X.env)] := by rfl) : PXI X C E (.Tuple elts kk tpos) (.Call (.Name "enumerate" p) [e] [] pos) (i_enumU ms) := by
  obtain ⟨ta, pa, sa⟩ := h
  refine ⟨_, pi_enumU hg hm pa hs, fun W σ H ρ M R ok sl p => ?_⟩
  refine sa W σ H ρ M _ ok sl (post_bind p fun a M1 W1 H1 x l1 ok1 ra p1 => ?_)
  split at p1
  · rename_i _ ds
    obtain ⟨y, rfl, r⟩ := ra.one
    cases (show Rep C W1.B y (.tup ds) from r) with
    | tup h1 h2 =>
      rw [← hK]
      exact ⟨_, _, rfl, sqT_sub ok1.sub h1, post_ok p1 ok1 (walks_enumU h1 h2)⟩
  · exact p1.elim
/-- enumerate over a list or a tuple -/
def enumI (vs : List VD) (M : Mem) : Res (List D) := match vs with
  | [.d (.lst ds)] => .ok (enumL ds 0) M
  | [.d (.tup ds)] => .ok (enumL ds 0) M
  | _ => .fail
def i_enumA (ms : Mx (List VD)) : Mx (List D) := fun ρ M => (ms ρ M).bind enumI
theorem xi_enumA {e : Expr} {ms : Mx (List VD)} {elts : List Expr} {kk : Nat} {tpos p pos : Pos} (hK : C.K = X.K) (hm : X.mg "enumerate" = none) (h : PXA X C E [e] ms) (hg : Gl X "enumerate" := by rfl) (hs : starEach [e] X.env = [(false, eval e X.env)] := by rfl) : PXI X C E (.Tuple elts kk tpos) (.Call (.Name "enumerate" p) [e] [] pos) (i_enumA ms) := by
  obtain ⟨w1, p1, s1⟩ := xi_enum (elts := elts) (kk := kk) (tpos := tpos) (p := p) (pos := pos) hK hm h hg hs
  obtain ⟨w2, p2, s2⟩ := xi_enumU (elts := elts) (kk := kk) (tpos := tpos) (p := p) (pos := pos) hK hm h hg hs
  refine ⟨_, PI.or p1 p2, fun W σ H ρ M R ok sl p => ?_⟩
  unfold i_enumA at p
  cases q : ms ρ M with
  | fail =>
    rw [q] at p
    exact p.elim
  | exc c fs M1 =>
    rw [q] at p
    refine .inl (s1 W σ H ρ M R ok sl ?_)
    unfold i_enum
    rw [q]
    exact p
  | ok vs M1 =>
    rw [q] at p
    have p : post C (relI C) E R W H (enumI vs M1) := p
    unfold enumI at p
    split at p
    · refine .inl (s1 W σ H ρ M R ok sl ?_)
      unfold i_enum
      rw [q]
      exact p
    · refine .inr (s2 W σ H ρ M R ok sl ?_)
      unfold i_enumU
      rw [q]
      exact p
    · exact p.elim
end
end G
namespace G
open PySem PySem.Spec PyProof.Rows L2 TL
section
variable {X : Cx} {C : Cf} {E : XK} {CX : CXT} {k : Nat}
/-- the pieces of a text -/
def splitS (x y : List Nat) : List (List Nat) := (Txt.split (enc x) (enc y)).map tl
theorem repA_strs {B : Hp} : ∀ ss : List Str, RepA C B (ss.map V.str) (ss.map fun s => D.str (tl s))
  | [] => .nil
  | s :: r => by
    have e : s = enc (tl s) := of_tl rfl
    exact .cons (by
      show Rep C B (.str s) (.str (tl s))
      conv => lhs; rw [e]
      exact .str _) (repA_strs r)
def f_split (x y : VD) (M : Mem) : Res VD := match x, y with
  | .d (.str a), .d (.str b) => if b.length ≠ 0 ∧ a.length + 2 ≤ lim then .ok (.d (.lst ((splitS a b).map D.str))) M else .fail
  | _, _ => .fail
theorem p_split : OpS C E (fun x y H Q => ∃ a b, x = .str a ∧ [y] = [.str b] ∧ (b.length == 0) = false ∧ a.length + 2 ≤ sizeLine ∧ rNewStrs (Txt.split a b) H Q) f_split := fun W H M x y a b Q ok ra rb p => by
  unfold f_split at p
  split at p
  · rename_i s t
    split at p
    · rename_i hl
      cases inv_str ra
      cases inv_str rb
      refine ⟨_, _, rfl, rfl, ?_, ?_, fun q hq => ?_⟩
      · rw [enc_len]
        simpa using hl.1
      · rw [enc_len]
        exact Nat.le_trans hl.2 (by decide)
      · obtain ⟨ok3, l3⟩ := ok.new (o := .lst ((Txt.split (enc s) (enc t)).map V.str)) hq
        refine p _ _ _ (Step.new ok hq) ok3 (Rep.lst (by show upd W.B q _ q = _; rw [upd_same]) ?_)
        have e : (splitS s t).map D.str = (Txt.split (enc s) (enc t)).map fun s => D.str (tl s) := by
          unfold splitS
          rw [List.map_map]
          rfl
        rw [e]
        exact repA_strs _
    · exact p.elim
  · exact p.elim
theorem x_split {o e : Expr} {ma mb : Mx VD} {apos pos : Pos} (ha : PX X C E o ma) (hb : PX X C E e mb) (hs : starEach [e] X.env = [(false, eval e X.env)] := by rfl) (hbase : attributeBase o "split" X.env (eval o X.env) = eval o X.env := by rfl) (hline : (apos.endLine == pos.line) = true := by rfl) :
    PX X C E (.Call (.Attribute o "split" apos) [e] [] pos) (e_m1 f_split ma mb) := by
  obtain ⟨ta, pa, sa⟩ := ha
  obtain ⟨tb, pb, sb⟩ := hb
  have q := sem_m1 (C := C) (E := E) (r := fun x xs H Q => ∃ a b, x = .str a ∧ xs = [.str b] ∧ (b.length == 0) = false ∧ a.length + 2 ≤ sizeLine ∧ rNewStrs (Txt.split a b) H Q) p_split sa sb
  exact ⟨_, pe_split pa pb hs hbase hline, q⟩
end
end G
namespace G
open PySem PySem.Spec PyProof.Rows L2
section
variable {X : Cx} {C : Cf} {E : XK} {CX : CXT} {k : Nat}
def inI (x : Int) : List Int → List Int
  | [] => [x]
  | y :: r => if x ≤ y then x :: y :: r else y :: inI x r
def srtI : List Int → List Int
  | [] => []
  | x :: r => inI x (srtI r)
def f_sortI : List VD → Mem → Res VD
  | [v], M => match (lstOf M v).bind inL with
    | some ns => if ns.length < 64 then .ok (.d (.lst ((srtI ns).map D.int))) M else .fail
    | none => .fail
  | _, _ => .fail
end
end G
namespace G
open PySem PySem.Spec PyProof.Rows L2
theorem Ok.knowM {C : Cf} {W : Wd} {H : Hp} {M : Mem} {A : Addr} {vs : List V} {ds : List D} (ok : Ok C W H M) (hD : H A = some (.lst vs)) (hB : W.B A = none) (hal : ∀ j : Nat, W.al[j]? ≠ some A) (r : RepA C W.B vs ds) : Ok C ⟨W.B, W.al ++ [A]⟩ H (M ++ [.lst ds]) ∧ Le W ⟨W.B, W.al ++ [A]⟩ := by
  have l : Le W ⟨W.B, W.al ++ [A]⟩ := ⟨Same.refl _, [A], rfl⟩
  refine ⟨⟨ok.sub, nodup_snoc ok.nd fun h => ?_, by simp [ok.len], fun i a n e1 e2 => ?_, ok.tab, ok.tbB, ok.low⟩, l⟩
  · obtain ⟨i, e⟩ := List.mem_iff_getElem?.mp h
    exact hal i e
  · have e1' : (W.al ++ [A])[i]? = some a := e1
    by_cases hi : i < M.length
    · rw [List.getElem?_append_left hi] at e2
      rw [List.getElem?_append_left (by rw [ok.len]; exact hi)] at e1'
      have q := ok.mo i a n e1' e2
      exact q.world l fun z e nd => by
        subst e
        exact q.freeB nd
    · have hi' : i = M.length := by
        have := (List.getElem?_eq_some_iff.mp e2).1
        simp at this
        omega
      subst hi'
      simp at e2
      subst e2
      rw [← ok.len] at e1'
      simp at e1'
      subst e1'
      exact ⟨hB, vs, hD, r⟩
theorem Step.knowM {W1 W2 : Wd} {H1 H2 : Hp} {A : Addr} (s : Step W1 H1 W2 H2) (hA : H1 A = none) : Step W1 H1 ⟨W2.B, W2.al ++ [A]⟩ H2 := ⟨s.le.trans ⟨Same.refl _, [A], rfl⟩, fun x u h1 h2 h3 h4 => by
  obtain ⟨q1, q2, q3⟩ := s.fr x u h1 h2 h3 h4
  refine ⟨q1, q2, fun i e => ?_⟩
  have e : (W2.al ++ [A])[i]? = some x := e
  by_cases hi : i < W2.al.length
  · rw [List.getElem?_append_left hi] at e
    exact q3 i e
  · rw [List.getElem?_append_right (by omega)] at e
    cases q : i - W2.al.length with
    | zero =>
      rw [q] at e
      exact (ne_of_none h1 hA) (Option.some.inj e).symm
    | succ n =>
      rw [q] at e
      simp at e⟩
section
variable {X : Cx} {C : Cf} {E : XK} {CX : CXT} {k : Nat}
def e_compG (fin : List D → Mem → Res VD) (vs : List Nat) (mi : Mx (List D)) (mg : VD → Env → Option Env) (mt : Mx Bool) (me : Mx VD) : Mx VD := fun ρ M => (mi ρ M).bind fun items M1 => (compL (cTurn vs mg mt me ρ) items M1 []).bind fin
theorem sem_compG {fin : List D → Mem → Res VD} {wi : TI} {g : TG} {tt : TT} {te : TE} {vs ts : List Nat} {mi mg mt me} (hts : ∀ j ∈ ts, j ∈ vs) (si : SemI C E wi mi) (sg : SemG C ts g mg) (st : SemT C E0 tt mt) (se : Sem C E0 te me) (hfin : ∀ (W1 W2 : Wd) (H1 H2 : Hp) (M2 : Mem) (A : Addr) (vacc : List V) (acc : List D) (Q : VK), H1 A = none → Step W1 H1 W2 H2 → Ok C W2 H2 M2 → H2 A = some (.lst vacc) → W2.B A = none → (∀ j : Nat, W2.al[j]? ≠ some A) → RepA C W2.B vacc acc → post C (relV C) E Q W1 H1 (fin acc M2) → Q (.ref A) H2) : Sem C E (tLc wi g tt te vs) (e_compG fin vs mi mg mt me) := fun W σ H ρ M Q ok sl p => by
  refine si W σ H ρ M _ ok sl (post_bind p fun items M1 W1 H1 J l1 ok1 wk p1 => ?_)
  intro A hA
  -- the state between the turns
  refine ⟨fun i m H2 => m = items.length - i ∧ i ≤ items.length ∧ ∃ (W2 : Wd) (M2 : Mem) (vacc : List V) (acc : List D), Step W1 H1 W2 H2 ∧ Ok C W2 H2 M2 ∧ H2 A = some (.lst vacc) ∧ W2.B A = none ∧ (∀ j : Nat, W2.al[j]? ≠ some A) ∧ RepA C W2.B vacc acc ∧
    post C (relV C) E Q W1 H1 ((compL (cTurn vs mg mt me ρ) (items.drop i) M2 acc).bind fin), ?_, ?_⟩
  · refine ⟨_, rfl, Nat.zero_le _, W1, M1, [], [], Step.grow hA, ok1.grow (same_upd hA), upd_same, ok1.notB hA, fun j e => ok1.ne hA e rfl, .nil, ?_⟩
    rw [List.drop_zero]
    exact p1
  · rintro i m H2 ⟨rfl, hi, W2, M2, vacc, acc, s2, ok2, hD, hB, hal, racc, p2⟩
    by_cases hlt : i < items.length
    · refine .inr ⟨wk.go i W2 H2 M2 s2.le ok2 hlt, fun H' => ∃ m', m' < items.length - i ∧ (m' = items.length - (i + 1) ∧ i + 1 ≤ items.length ∧ ∃ (W2 : Wd) (M2 : Mem) (vacc : List V) (acc : List D), Step W1 H1 W2 H' ∧ Ok C W2 H' M2 ∧ H' A = some (.lst vacc) ∧ W2.B A = none ∧ (∀ j : Nat, W2.al[j]? ≠ some A) ∧ RepA C W2.B vacc acc ∧
        post C (relV C) E Q W1 H1 ((compL (cTurn vs mg mt me ρ) (items.drop (i + 1)) M2 acc).bind fin)), fun H' h => h, fun x H3 y => ?_⟩
      obtain ⟨W3, d, hd, s3, ok3, rx⟩ := wk.yld i W2 H2 M2 x H3 s2.le ok2 hlt y
      obtain ⟨hD3, hB3, hal3⟩ := s3.fr A _ hD hB hal nt_lst
      have e : items.drop i = d :: items.drop (i + 1) := by
        rw [List.drop_eq_getElem_cons hlt]
        have := (List.getElem?_eq_some_iff.mp hd).2
        rw [this]
      rw [e] at p2
      simp only [compL] at p2
      have sl3 := ((sl.mono l1.le).mono s2.le).mono s3.le
      refine sg W3 (L2.wipe σ vs) H3 (wipeE ρ vs) M2 x (.d d) _ ok3 (sl3.wipe vs) rx ?_
      cases q0 : cTurn vs mg mt me ρ d M2 with
      | fail =>
        rw [q0] at p2
        exact p2.elim
      | exc _ _ _ =>
        rw [q0] at p2
        exact p2.elim
      | ok o M5 =>
        rw [q0] at p2
        cases o with
        | none =>
          obtain ⟨ρ2, q, q2⟩ := cTurn_none q0
          rw [q]
          intro σ2 sl4 w4
          refine ⟨by rw [w4 vs hts, wipe_idem fun j h => h], ?_⟩
          refine st W3 σ2 H3 ρ2 M2 _ ok3 sl4 ?_
          rw [q2]
          intro W4 H4 b' s4 ok4 eb
          obtain ⟨hD4, hB4, hal4⟩ := s4.fr A _ hD3 hB3 hal3 nt_lst
          cases eb
          show ∃ m', _
          exact ⟨_, by omega, rfl, hlt, W4, M5, vacc, acc, (s2.trans s3).trans s4, ok4, hD4, hB4, hal4, (racc.mono s3.le.1).mono s4.le.1, p2⟩
        | some z =>
          obtain ⟨ρ2, M4, q, q2, q3⟩ := cTurn_some q0
          rw [q]
          intro σ2 sl4 w4
          refine ⟨by rw [w4 vs hts, wipe_idem fun j h => h], ?_⟩
          refine st W3 σ2 H3 ρ2 M2 _ ok3 sl4 ?_
          rw [q2]
          intro W4 H4 b' s4 ok4 eb
          obtain ⟨hD4, hB4, hal4⟩ := s4.fr A _ hD3 hB3 hal3 nt_lst
          cases eb
          show te σ2 H4 _
          refine se W4 σ2 H4 ρ2 M4 _ ok4 (sl4.mono s4.le) ?_
          rw [q3]
          intro W5 H5 y5 s5 ok5 r5
          obtain ⟨hD5, hB5, hal5⟩ := s5.fr A _ hD4 hB4 hal4 nt_lst
          have p2 : post C (relV C) E Q W1 H1 ((if acc.length < lim then compL (cTurn vs mg mt me ρ) (items.drop (i + 1)) M5 (acc ++ [z]) else Res.fail).bind fin) := p2
          split at p2
          · rename_i hl
            have racc5 : RepA C W5.B vacc acc := ((racc.mono s3.le.1).mono s4.le.1).mono s5.le.1
            refine ⟨vacc, hD5, by rw [racc.length]; exact lim_lt hl, _, by omega, rfl, hlt, W5, M5, vacc ++ [y5], acc ++ [z], ?_, ?_, upd_same, hB5, hal5, racc5.append (.cons r5 .nil), p2⟩
            · have sx := (((s2.trans s3).trans s4).trans s5)
              refine ⟨sx.le, fun a o h1 h2 h3 h4 => ?_⟩
              obtain ⟨q1, q2, q3⟩ := sx.fr a o h1 h2 h3 h4
              exact ⟨by rw [upd_ne (ne_of_none h1 hA)]; exact q1, q2, q3⟩
            · refine ⟨fun b u e => ?_, ok5.nd, ok5.len, fun j b n e1 e2 => ?_, tabs_write ok5.tab hD5 plain_lst, ok5.tbB, ok5.low⟩
              · rw [upd_ne (ne_of_none e hB5)]
                exact ok5.sub b u e
              · have ne : b ≠ A := fun q => hal5 j (by rw [← q]; exact e1)
                have q := ok5.mo j b n e1 e2
                cases n with
                | dead => exact q
                | lst ds =>
                  obtain ⟨q1, vs, q2, q3⟩ := q
                  exact ⟨q1, vs, by rw [upd_ne ne]; exact q2, q3⟩
                | ins c fs =>
                  obtain ⟨q1, dx, vs, q2, q3⟩ := q
                  exact ⟨q1, dx, vs, by rw [upd_ne ne]; exact q2, q3⟩
                | lsv ds =>
                  obtain ⟨q1, vs, q2, q3⟩ := q
                  exact ⟨q1, vs, by rw [upd_ne ne]; exact q2, q3⟩
                | dck ds =>
                  obtain ⟨q1, vs, q2, q3⟩ := q
                  exact ⟨q1, vs, by rw [upd_ne ne]; exact q2, q3⟩
                | dcp ds =>
                  obtain ⟨q1, vs, q2, q3⟩ := q
                  exact ⟨q1, vs, by rw [upd_ne ne]; exact q2, q3⟩
          · exact p2.elim
    · have hi2 : i = items.length := by omega
      subst hi2
      refine .inl ⟨wk.stop _ W2 H2 M2 s2.le ok2 (Nat.le_refl _), ?_⟩
      rw [List.drop_length] at p2
      exact hfin W1 W2 H1 H2 M2 A vacc acc Q hA s2 ok2 hD hB hal racc p2
/-- the list changes later -/
def finN (ds : List D) (M : Mem) : Res VD := .ok (.adr M.length) (M ++ [.lst ds])
def e_compN := e_compG finN
theorem finN_ok (W1 W2 : Wd) (H1 H2 : Hp) (M2 : Mem) (A : Addr) (vacc : List V) (acc : List D) (Q : VK) (hA : H1 A = none) (s2 : Step W1 H1 W2 H2) (ok2 : Ok C W2 H2 M2) (hD : H2 A = some (.lst vacc)) (hB : W2.B A = none) (hal : ∀ j : Nat, W2.al[j]? ≠ some A) (r : RepA C W2.B vacc acc) (p : post C (relV C) E Q W1 H1 (finN acc M2)) : Q (.ref A) H2 := by
  obtain ⟨ok3, l3⟩ := ok2.knowM hD hB hal r
  exact p _ H2 _ (s2.knowM hA) ok3 ⟨A, rfl, by rw [← ok2.len]; simp⟩
theorem xs_setLcN {i : Nat} {y : Str} {py spos : Pos} {elt tg iter : Expr} {ifs : List Expr} {scope : Scope} {own : List (Str × Nat)} {pos : Pos} {ts : List Nat} {mi : Mx (List D)} {mg mt me} (c : Cxx X C E CX k) (hi : PXI X C E tg iter mi) (ok : BlkOk X.N X.env.scope scope own)
    (hg : ∀ (s : Shared) (H : Hp) (A : Addr) (cl : List (Str × Addr)) (fp : List Addr), Cxx (X.blk s H scope (compEnvC scope cl A X.env) fp) C E0 CX k → PXG (X.blk s H scope (compEnvC scope cl A X.env) fp) C ts tg mg)
    (ht : ∀ (s : Shared) (H : Hp) (A : Addr) (cl : List (Str × Addr)) (fp : List Addr), Cxx (X.blk s H scope (compEnvC scope cl A X.env) fp) C E0 CX k → PXTs (X.blk s H scope (compEnvC scope cl A X.env) fp) C E0 ifs mt)
    (he : ∀ (s : Shared) (H : Hp) (A : Addr) (cl : List (Str × Addr)) (fp : List Addr), Cxx (X.blk s H scope (compEnvC scope cl A X.env) fp) C E0 CX k → PX (X.blk s H scope (compEnvC scope cl A X.env) fp) C E0 elt me)
    (hy : X.N[i]? = some y := by rfl) (hyl : X.env.scope.names.lookup y = some .local := by rfl) (hsw : swapsWith (.ListComp elt [⟨tg, iter, ifs, 0⟩] scope pos) (some (.Name y py)) spos.line X.env = pure true := by exact sw_true rfl rfl rfl (by decide +kernel))
    (hts : ∀ j ∈ ts, j ∈ own.map (·.2) := by decide) (hs : ∀ x, foldedSetIterable iter X.env x = pure x := by intro _; rfl) : PXS X C E (.Assign [.Name y py] (.ListComp elt [⟨tg, iter, ifs, 0⟩] scope pos) spos) (s_asg (e_compN (own.map (·.2)) mi mg mt me) (g_name i)) := by
  obtain ⟨wi, pi, si⟩ := hi
  exact ⟨_, ps_setLc c.calm c.nd hy hyl hsw pi ok (fun s H A cl fp => (hg s H A cl fp (c.blk s H scope _ fp)).pg) (fun s H A cl fp => (ht s H A cl fp (c.blk s H scope _ fp)).pts) (fun s H A cl fp => (he s H A cl fp (c.blk s H scope _ fp)).pe) hs,
    sem_asg (ts := [i]) (sem_compG hts si (sem_tg ts mg) (sem_tt mt) (sem_te me) finN_ok) fun W σ H ρ M x v Q ok sl r h => h _ (sl.set r) fun vs hv => wipe_set_in (hv i (by simp))⟩
def f_isC (c : Nat) (v : VD) (M : Mem) : Res VD := if isC c M v then .ok (.d (.bl true)) M else match vtOf M v with
  | some _ => .ok (.d (.bl false)) M
  | none => .fail
def e_isC (c : Nat) (m : Mx VD) : Mx VD := fun ρ M => (m ρ M).bind (f_isC c)
theorem x_cvalE {i : Int} {x f : Str} {a : Addr} {p pos : Pos} (hm : X.mg x = some (.ref a)) (h : ∃ mc u, ClX.CRead X.K a mc ∧ ClX.CVal X.K a mc f (.int i) u) (hg : Gl X x := by rfl) (hdb : (x == ("__debug__" : Str)) = false := by decide) (hb : attributeBase (.Name x p) f X.env (eval (.Name x p) X.env) = eval (.Name x p) X.env := by rfl) : PX X C E (.Attribute (.Name x p) f pos) (e_c (.int i)) := by
  obtain ⟨mc, u, h1, h2⟩ := h
  exact x_cval hm h1 h2 hg hdb hb
def f_listN : List VD → Mem → Res VD
  | [a], M => match seqOf M a with
    | some ds => .ok (.adr M.length) (M ++ [.lst ds])
    | none => .fail
  | _, _ => .fail
end
end G
namespace G
open PySem PySem.Spec PyProof.Rows L2
/-- the one class c has it at i -/
def tb (c i : Nat) : Nat → Option Nat := fun c' => if c' = c then some i else none
theorem fld_tb {C : Cf} {f : Str} {c i : Nat} (h : Fld C f c i) : ∀ c' i', tb c i c' = some i' → Fld C f c' i' := fun c' i' e => by
  unfold tb at e
  split at e
  · rename_i q
    cases e
    rw [q]
    exact h
  · cases e
theorem RepVA.three {C : Cf} {W : Wd} {xs : List V} {a b c : VD} (h : RepVA C W xs [a, b, c]) : ∃ x y z, xs = [x, y, z] ∧ RepV C W x a ∧ RepV C W y b ∧ RepV C W z c := by
  cases h with
  | cons h r =>
    obtain ⟨y, z, rfl, h2, h3⟩ := r.two
    exact ⟨_, _, _, rfl, h, h2, h3⟩
def s_par3 (i j l : Nat) (ms : Mx (List VD)) : Sx := fun ρ M => (ms ρ M).out fun vs M1 => match vs with
  | [a, b, c] => .nx (((ρ.set i (some a)).set j (some b)).set l (some c)) M1
  | _ => .fail
section
variable {X : Cx} {C : Cf} {E : XK} {CX : CXT} {k : Nat}
theorem xs_par3 {i j l : Nat} {x y z : Str} {a b e : Expr} {ms : Mx (List VD)} {px py pz pt pos : Pos} {kt k2 pt2} (c : Cxx X C E CX k) (h : PXA X C E [a, b, e] ms) (hi : X.N[i]? = some x := by rfl) (hj : X.N[j]? = some y := by rfl) (hl : X.N[l]? = some z := by rfl) (hij : i ≠ j := by decide) (hil : i ≠ l := by decide) (hjl : j ≠ l := by decide)
    (hx : X.env.scope.names.lookup x = some .local := by rfl) (hy : X.env.scope.names.lookup y = some .local := by rfl) (hz : X.env.scope.names.lookup z = some .local := by rfl) (hw : swappedStores [.Tuple [.Name x px, .Name y py, .Name z pz] kt pt] (.Tuple [a, b, e] k2 pt2) X.env = pure (some [x, y, z]) := by rfl)
    (hs : swapsWithSole [.Tuple [.Name x px, .Name y py, .Name z pz] kt pt] (.Tuple [a, b, e] k2 pt2) pos.line X.env = pure false := by rfl) : PXS X C E (.Assign [.Tuple [.Name x px, .Name y py, .Name z pz] kt pt] (.Tuple [a, b, e] k2 pt2) pos) (s_par3 i j l ms) := by
  obtain ⟨t, p, s⟩ := h
  refine ⟨_, ps_par3 c.calm c.nd hi hj hl hij hil hjl hx hy hz p hw hs, fun W σ H ρ M D ok sl q => ?_⟩
  refine s W σ H ρ M _ ok sl (post_out q fun vs M1 W1 H1 xs l1 ok1 ra p1 => ?_)
  split at p1
  · obtain ⟨x, y, z, rfl, r1, r2, r3⟩ := ra.three
    exact ⟨x, y, z, rfl, postS_nx p1 ok1 ((((sl.mono l1.le).set r1).set r2).set r3)⟩
  · exact p1.elim
end
theorem bind_star1 {B : List Value → PySem.Sem (List (Str × Value))} {p1 pv : Str} (h0 : ∀ a, B [a] = (newTuple [] >>= fun t => pure [(p1, a), (pv, t)])) (h1 : ∀ a r rs, B (a :: r :: rs) = (newTuple (r :: rs) >>= fun t => pure [(p1, a), (pv, t)])) :
    ∀ us rest : List Value, us.length = [p1].length → B (us ++ rest) = (newTuple rest >>= fun t => pure ([p1].zip us ++ [(pv, t)]))
  | [a], [], _ => h0 a
  | [a], r :: rs, _ => h1 a r rs
end G
namespace G
open PySem PySem.Spec PyProof.Rows L2
section
variable {X : Cx} {C : Cf} {E : XK} {CX : CXT} {k : Nat}
/-- a display of things that may change -/
def e_lstV (ms : Mx (List VD)) : Mx VD := fun ρ M => (ms ρ M).bind fun vs M1 => if vs.length ≤ lim then .ok (.adr M1.length) (M1 ++ [.lsv vs]) else .fail
/-- what a value is at this moment -/
def now0 (M : Mem) : VD → Option D
  | .d x => some x
  | .adr j => match M[j]? with
    | some (.lst ds) => some (.lst ds)
    | _ => none
def nowL (M : Mem) : List VD → Option (List D)
  | [] => some []
  | v :: r => match now0 M v, nowL M r with
    | some x, some xs => some (x :: xs)
    | _, _ => none
def nowV (M : Mem) : VD → Option D
  | .d x => some x
  | .adr j => match M[j]? with
    | some (.lst ds) => some (.lst ds)
    | some (.lsv vs) => match nowL M vs with
      | some xs => some (.lst xs)
      | none => none
    | _ => none
def nowE (M : Mem) (ρ : Env) : Env := ρ.map fun o => match o with
  | some v => (nowV M v).map .d
  | none => none
/-- no thing of the heap -/
def shut : VD → Bool
  | .d .non => true
  | .d (.bl _) => true
  | .d (.int _) => true
  | .d (.str _) => true
  | _ => false
def peekK (r : Res VD) (M : Mem) : Res VD := match r with
  | .ok v _ => if shut v then .ok v M else .fail
  | _ => .fail
def e_peek (m : Mx VD) : Mx VD := fun ρ M => peekK (m (nowE M ρ) []) M
open Classical in
noncomputable def letB (W : Wd) (H : Hp) : Hp := fun a => match W.B a with
  | some o => some o
  | none => if a ∈ W.al then H a else none
theorem letB_old {W : Wd} {H : Hp} : Same W.B (letB W H) := fun a o e => by
  unfold letB
  rw [e]
theorem letB_al {W : Wd} {H : Hp} {M : Mem} (ok : Ok C W H M) {i : Nat} {a : Addr} (h : W.al[i]? = some a) : letB W H a = H a := by
  unfold letB
  cases e : W.B a with
  | some o => exact (ok.sub a o e).symm
  | none => exact if_pos (List.mem_of_getElem? h)
theorem letB_sub {W : Wd} {H : Hp} {M : Mem} (ok : Ok C W H M) : Same (letB W H) H := fun a o e => by
  unfold letB at e
  split at e
  · rename_i o' e'
    cases e
    exact ok.sub a _ e'
  · split at e
    · exact e
    · cases e
theorem letB_ok {W : Wd} {H : Hp} {M : Mem} (ok : Ok C W H M) : Ok C ⟨letB W H, []⟩ H [] := ⟨letB_sub ok, .nil, rfl, (fun i a m h _ => by cases h), ok.tab, fun q hq => by
  show letB W H q.1 = none
  unfold letB
  rw [ok.tbB q hq]
  refine if_neg fun hm => ?_
  obtain ⟨i, hi⟩ := List.mem_iff_getElem?.mp hm
  have hlt : i < M.length := by rw [← ok.len]; exact (List.getElem?_eq_some_iff.mp hi).1
  obtain ⟨m, hm2⟩ : ∃ m, M[i]? = some m := ⟨M[i], List.getElem?_eq_getElem hlt⟩
  have mk := ok.mo i _ m hi hm2
  by_cases hd : m = .dead
  · subst hd
    obtain ⟨o, e⟩ := mk
    rw [ok.tbB q hq] at e
    cases e
  · obtain ⟨u, e, p⟩ := mk.plain hd
    obtain ⟨ps, h1, _⟩ := ok.tab q hq
    exact p.1 ps (by rw [e] at h1; exact Option.some.inj h1), ok.low.trans letB_old⟩
theorem now0_ok {W : Wd} {H : Hp} {M : Mem} {x : V} {v : VD} {d : D} (ok : Ok C W H M) (r : RepV C W x v) (h : now0 M v = some d) : Rep C (letB W H) x d := by
  cases v with
  | d y =>
    cases h
    exact Rep.mono letB_old r
  | adr j =>
    obtain ⟨a, rfl, ha⟩ := r
    unfold now0 at h
    dsimp only at h
    split at h
    · rename_i ds e
      cases h
      obtain ⟨_, vs, h1, h2⟩ := ok.mo j a _ ha e
      exact Rep.lst (by rw [letB_al ok ha]; exact h1) (h2.mono letB_old)
    · cases h
theorem nowL_ok {W : Wd} {H : Hp} {M : Mem} (ok : Ok C W H M) : ∀ {xs : List V} {vs : List VD} {ds : List D}, RepVA C W xs vs → nowL M vs = some ds → RepA C (letB W H) xs ds
  | _, _, _, .nil, h => by
    cases h
    exact .nil
  | _, _, _, .cons r rs, h => by
    unfold nowL at h
    split at h
    · rename_i x xs e1 e2
      cases h
      exact .cons (now0_ok ok r e1) (nowL_ok ok rs e2)
    · cases h
theorem nowV_ok {W : Wd} {H : Hp} {M : Mem} {x : V} {v : VD} {d : D} (ok : Ok C W H M) (r : RepV C W x v) (h : nowV M v = some d) : Rep C (letB W H) x d := by
  cases v with
  | d y =>
    cases h
    exact Rep.mono letB_old r
  | adr j =>
    obtain ⟨a, rfl, ha⟩ := r
    unfold nowV at h
    dsimp only at h
    split at h
    · rename_i ds e
      cases h
      obtain ⟨_, vs, h1, h2⟩ := ok.mo j a _ ha e
      exact Rep.lst (by rw [letB_al ok ha]; exact h1) (h2.mono letB_old)
    · rename_i ws e
      split at h
      · rename_i xs e2
        cases h
        obtain ⟨_, vs, h1, h2⟩ := ok.mo j a _ ha e
        exact Rep.lst (by rw [letB_al ok ha]; exact h1) (nowL_ok ok h2 e2)
      · cases h
    · cases h
theorem nowE_ok {W : Wd} {H : Hp} {M : Mem} {σ : L2.St} {ρ : Env} (ok : Ok C W H M) (sl : Slots C W σ ρ) : Slots C ⟨letB W H, []⟩ σ (nowE M ρ) := by
  obtain ⟨hl, hs⟩ := sl
  refine ⟨by unfold nowE; rw [List.length_map]; exact hl, fun i d e => ?_⟩
  unfold nowE at e
  rw [List.getElem?_map] at e
  cases q : ρ[i]? with
  | none =>
    rw [q] at e
    cases e
  | some o =>
    rw [q] at e
    cases o with
    | none => cases e
    | some v =>
      cases q2 : nowV M v with
      | none =>
        simp [q2] at e
      | some x =>
        simp [q2] at e
        subst e
        obtain ⟨y, h1, h2⟩ := hs i v q
        exact ⟨y, h1, nowV_ok ok h2 q2⟩
theorem letB_back {W W1 : Wd} {H H1 : Hp} {M M1 : Mem} (ok : Ok C W H M) (st : Step ⟨letB W H, []⟩ H W1 H1) (ok1 : Ok C W1 H1 M1) : Step W H W H1 ∧ Ok C W H1 M := by
  have keep : ∀ (i : Nat) (a : Addr) (o : HO), W.al[i]? = some a → H a = some o → H1 a = some o := fun i a o ha ho => by
    have e : letB W H a = some o := by rw [letB_al ok ha]; exact ho
    exact ok1.sub a o (st.le.1 a o e)
  refine ⟨⟨Le.refl W, fun a o h1 h2 h3 h4 => ?_⟩, fun a o e => ok1.sub a o (st.le.1 a o (letB_old a o e)), ok.nd, ok.len, fun i a m e1 e2 => ?_, ok1.tab, ok.tbB, ok.low⟩
  · have e : letB W H a = none := by
      unfold letB
      rw [h2]
      exact if_neg fun hm => by
        obtain ⟨i, hi⟩ := List.mem_iff_getElem?.mp hm
        exact h3 i hi
    obtain ⟨q1, _, _⟩ := st.fr a o h1 e (fun i z => by cases z) h4
    exact ⟨q1, h2, h3⟩
  · have q := ok.mo i a m e1 e2
    cases m with
    | dead => exact q
    | lst ds =>
      obtain ⟨q1, vs, q2, q3⟩ := q
      exact ⟨q1, vs, keep i a _ e1 q2, q3⟩
    | ins c fs =>
      obtain ⟨q1, dx, vs, q2, q3⟩ := q
      exact ⟨q1, dx, vs, keep i a _ e1 q2, q3⟩
    | lsv ds =>
      obtain ⟨q1, vs, q2, q3⟩ := q
      exact ⟨q1, vs, keep i a _ e1 q2, q3⟩
    | dck ds =>
      obtain ⟨q1, vs, q2, q3⟩ := q
      exact ⟨q1, vs, keep i a _ e1 q2, q3⟩
    | dcp ds =>
      obtain ⟨q1, vs, q2, q3⟩ := q
      exact ⟨q1, vs, keep i a _ e1 q2, q3⟩
theorem sem_peek {te : TE} {m : Mx VD} (h : Sem C E te m) : Sem C E te (e_peek m) := fun W σ H ρ M Q ok sl p => by
  refine h ⟨letB W H, []⟩ σ H (nowE M ρ) [] _ (letB_ok ok) (nowE_ok ok sl) ?_
  unfold e_peek at p
  cases q : m (nowE M ρ) [] with
  | fail =>
    rw [q] at p
    exact p.elim
  | exc c fs M1 =>
    rw [q] at p
    exact p.elim
  | ok v M1 =>
    rw [q] at p
    intro W1 H1 x st ok1 rv
    obtain ⟨s2, ok2⟩ := letB_back ok st ok1
    have p : post C (relV C) E Q W H (if shut v then .ok v M else .fail) := p
    split at p
    · rename_i hs
      refine p _ _ _ s2 ok2 ?_
      cases v with
      | adr _ => cases hs
      | d y =>
        cases y with
        | non => cases inv_non rv; exact Rep.non
        | bl b => cases inv_bl rv; exact Rep.bl b
        | int b => cases inv_int rv; exact Rep.int b
        | str b => cases inv_str rv; exact Rep.str b
        | lst _ => cases hs
        | tup _ => cases hs
        | obj _ _ => cases hs
        | scr _ => cases hs
        | clo _ => cases hs
        | exn _ _ => cases hs
        | pv _ => cases hs
        | dck _ _ => cases hs
        | dcp _ _ => cases hs
    · exact p.elim
theorem x_peek {e : Expr} {m : Mx VD} (h : PX X C E e m) : PX X C E e (e_peek m) := by
  obtain ⟨te, pe, se⟩ := h
  exact ⟨te, pe, sem_peek se⟩
end
end G
namespace G
open PySem PySem.Spec PyProof.Rows L2
section
variable {X : Cx} {C : Cf} {E : XK} {CX : CXT} {k : Nat}
def comp2 (vs vs1 : List Nat) (mg : VD → Env → Option Env) (mt : Mx Bool) (mi1 : Mx (List D)) (mg1 : VD → Env → Option Env) (mt1 : Mx Bool) (me : Mx VD) (ρ : Env) : List D → Mem → List D → Res (List D)
  | [], M, acc => .ok acc M
  | x :: xs, M, acc => match mg (.d x) (wipeE ρ vs) with
    | none => .fail
    | some ρ2 => match mt ρ2 M with
      | .ok true M2 => match mi1 ρ2 M2 with
        | .ok items1 M3 => match compL (cTurn vs1 mg1 mt1 me ρ2) items1 M3 acc with
          | .ok acc' M4 => comp2 vs vs1 mg mt mi1 mg1 mt1 me ρ xs M4 acc'
          | _ => .fail
        | _ => .fail
      | .ok false M2 => comp2 vs vs1 mg mt mi1 mg1 mt1 me ρ xs M2 acc
      | _ => .fail
def finD (ds : List D) (M : Mem) : Res VD := .ok (.d (.lst ds)) M
def e_comp2 (fin : List D → Mem → Res VD) (vs vs1 : List Nat) (mi : Mx (List D)) (mg : VD → Env → Option Env) (mt : Mx Bool) (mi1 : Mx (List D)) (mg1 : VD → Env → Option Env) (mt1 : Mx Bool) (me : Mx VD) : Mx VD := fun ρ M => (mi ρ M).bind fun items M1 => (comp2 vs vs1 mg mt mi1 mg1 mt1 me ρ items M1 []).bind fin
end
end G
namespace G
open PySem PySem.Spec PyProof.Rows L2
section
variable {X : Cx} {C : Cf} {E : XK} {CX : CXT} {k : Nat}
def f_clr (x : VD) (M : Mem) : Res VD := match x with
  | .adr j => match M[j]? with
    | some (.lst _) => .ok (.d .non) (M.set j (.lst []))
    | _ => .fail
  | _ => .fail
def e_clr (a : Mx VD) : Mx VD := fun ρ M => (a ρ M).bind f_clr
end
end G
namespace G
open PySem PySem.Spec PyProof.Rows L2
section
variable {X : Cx} {C : Cf} {E : XK} {CX : CXT} {k : Nat}
noncomputable def f_lrg (v : VD) (M : Mem) : Res VD := match v with
  | .d (.int j) => gi (0 ≤ j ∧ j ≤ 1000000) (.ok (.d (.lst (range 0 j.toNat))) M) .fail
  | _ => .fail
noncomputable def e_lrg (m : Mx VD) : Mx VD := fun ρ M => (m ρ M).bind f_lrg
def f_ins (x : VD) (vs : List VD) (M : Mem) : Res VD := match x, vs with
  | .adr j, [.d (.int i), .d d] => match M[j]? with
    | some (.lst ds) => if ds.length < lim ∧ 0 ≤ i ∧ i ≤ 1000000 then .ok (.d .non) (M.set j (.lst (ds.take i.toNat ++ [d] ++ ds.drop i.toNat))) else .fail
    | _ => .fail
  | _, _ => .fail
def e_ins (a : Mx VD) (ms : Mx (List VD)) : Mx VD := fun ρ M => (a ρ M).bind fun x M1 => match lstOf M1 x with
  | some _ => (ms ρ M1).bind fun vs M2 => f_ins x vs M2
  | none => .fail
noncomputable def f_mulO : VD → VD → Mem → Res VD
  | .d (.lst s), .d (.int j), M => gi (j < 2 ^ 60 ∧ -(2 ^ 60) < j ∧ s.length * j.toNat ≤ lim) (.ok (.adr M.length) (M ++ [.lst (List.replicate j.toNat s).flatten])) .fail
  | _, _, _ => .fail
end
end G
namespace G
open PySem PySem.Spec PyProof.Rows L2
section
variable {X : Cx} {C : Cf} {E : XK} {CX : CXT} {k : Nat}
def unC (c : Nat) : D := .tup [.int ((c / 1000 : Nat) : Int), .int ((c % 1000 : Nat) : Int)]
@[irreducible] def sortC (cs : List Nat) : List Nat := (List.range 1000000).filter fun c => decide (c ∈ cs)
end
end G
namespace G
open PySem PySem.Spec PyProof.Rows L2
section
variable {X : Cx} {C : Cf} {E : XK} {CX : CXT} {k : Nat}
def f_sidx (x y : VD) (M : Mem) : Res VD := match x, y with
  | .d (.str a), .d (.str [c]) => if c ∈ a then .ok (.d (.int (a.idxOf c : Nat))) M else .fail
  | _, _ => .fail
def f_ends (x y : VD) (M : Mem) : Res VD := match x, y with
  | .d (.str a), .d (.str b) => .ok (.d (.bl (Txt.endswith (enc a) (enc b)))) M
  | _, _ => .fail
theorem boot_max : bootBuiltins "max" = some (.builtin "max") := by decide +kernel
end
end G
namespace G
open PySem PySem.Spec PyProof.Rows L2
section
variable {X : Cx} {C : Cf} {E : XK} {CX : CXT} {k : Nat}
def subS (a z : List Nat) : Bool := (List.range (z.length + 1)).any fun i => TL.pre a (z.drop i)
def f_inT (neg : Bool) (x y : VD) (M : Mem) : Res VD := match x, y with
  | .d (.str a), .d (.str z) => if a ≠ [] then .ok (.d (.bl (subS a z != neg))) M else .fail
  | _, _ => .fail
noncomputable def f_mulT : VD → VD → Mem → Res VD
  | .d (.tup s), .d (.int j), M => gi (s ≠ [] ∧ 1 ≤ j ∧ j ≤ 1000 ∧ s.length ≤ 1000) (.ok (.d (.tup (List.replicate j.toNat s).flatten)) M) .fail
  | _, _, _ => .fail
def e_statK (n : Nat) (m : List VD → Mem → Res VD) (ms : Mx (List VD)) (mk : Mx VD) : Mx VD := fun ρ M => (ms ρ M).bind fun vs M1 => (mk ρ M1).bind fun v M2 => if vs.length = n then m (vs ++ [v]) M2 else .fail
end
end G
namespace G
open PySem PySem.Spec PyProof.Rows L2
section
variable {X : Cx} {C : Cf} {E : XK} {CX : CXT} {k : Nat}
structure WalksP (C : Cf) (J : It) (items : List D) (P : Mem → Prop) (W0 : Wd) : Prop where
  go : ∀ (i : Nat) (W : Wd) (H : Hp) (M : Mem), Le W0 W → Ok C W H M → P M → i < items.length → J.go i H
  yld : ∀ (i : Nat) (W : Wd) (H : Hp) (M : Mem) (x : V) (H' : Hp), Le W0 W → Ok C W H M → P M → i < items.length → J.yld i H x H' → ∃ W' d, items[i]? = some d ∧ Step W H W' H' ∧ Ok C W' H' M ∧ Rep C W'.B x d
  stop : ∀ (i : Nat) (W : Wd) (H : Hp) (M : Mem), Le W0 W → Ok C W H M → P M → items.length ≤ i → J.stop i H
theorem WalksP.mono {J : It} {items : List D} {P : Mem → Prop} {W W' : Wd} (l : Le W W') (h : WalksP C J items P W) : WalksP C J items P W' :=
  ⟨fun i W2 H M l2 => h.go i W2 H M (l.trans l2), fun i W2 H M x H' l2 => h.yld i W2 H M x H' (l.trans l2), fun i W2 H M l2 => h.stop i W2 H M (l.trans l2)⟩
end
end G
namespace G
open PySem PySem.Spec PyProof.Rows L2
abbrev iniFn (qual : Str) (params : Arguments) (body : List Stmt) (scope : Scope) (cc : Addr) (dV kV doc pm : Value) (an : Option Addr) (cdv ct : Value) : FuncData :=
  { name := "__init__", qualname := qual, params, body := .stmts body, scope, globals := mainGlobals, closure := [("__class__", cc)], defaults := dV, kwdefaults := kV, doc, pyModule := pm, annotations := an, code := cdv, closureTuple := ct, builtins := builtinsNs }
end G
namespace G
open PySem PySem.Spec PyProof.Rows L2
/-- raise x(e) -/
def raiseV (c : Nat) (code : List Nat) (vs : List VD) (M : Mem) : Out := match vs with
  | [.d z] => .exc c [.str code, z] M
  | _ => .fail
def s_raise (c : Nat) (code : List Nat) (ms : Mx (List VD)) : Sx := fun ρ M => (ms ρ M).out (raiseV c code)
def trimX (n : Nat) : Res VD → Res VD
  | .ok v M => trim n (.ok v M)
  | .exc c fs M => if (M.take n).all (moLt n) then .exc c fs (M.take n) else .exc c fs M
  | .fail => .fail
section
variable {P : Program} {w : World} {K : PySem.W.Frag} {mg : Str → Option Value} {base : Heap} {C : Cf}
theorem ExcAt.mono {W W' : Wd} {dx : Addr} {c : Nat} {fs : List D} (l : Same W.B W'.B) (h : ExcAt C W dx c fs) : ExcAt C W' dx c fs := Rep.mono l h
end
end G
namespace G
open PySem PySem.Spec PyProof.Rows L2
def e_lam (k : Nat) : Mx VD := fun _ M => .ok (.d (.clo k)) M
end G
namespace G
open PySem PySem.Spec PyProof.Rows L2
/-- C, from a world on in which h is known -/
abbrev Cf.at (C : Cf) (h : Hp) : Cf := { C with low := h }
section
variable {C : Cf} {h : Hp}
mutual
theorem Rep.at {B : Hp} : ∀ {v : V} {d : D}, Rep C B v d → Rep (C.at h) B v d
  | _, _, .non => .non
  | _, _, .bl b => .bl b
  | _, _, .int i => .int i
  | _, _, .str s => .str s
  | _, _, .lst a r => .lst a (RepA.at r)
  | _, _, .tup a r => .tup a (RepA.at r)
  | _, _, .obj a b r => .obj a b (RepA.at r)
  | _, _, .scr a => .scr a
  | _, _, .clo a b c d => .clo a b c d
  | _, _, .exn a b c r => .exn a b c (RepA.at r)
  | _, _, .pv => .pv
  | _, _, .dck a b r => .dck a b (RepA.at r)
  | _, _, .dcp a b c q r => .dcp a b c q (RepA.at r)
theorem RepA.at {B : Hp} : ∀ {vs : List V} {ds : List D}, RepA C B vs ds → RepA (C.at h) B vs ds
  | _, _, .nil => .nil
  | _, _, .cons a r => .cons (Rep.at a) (RepA.at r)
end
mutual
theorem Rep.off {B : Hp} : ∀ {v : V} {d : D}, Rep (C.at h) B v d → Rep C B v d
  | _, _, .non => .non
  | _, _, .bl b => .bl b
  | _, _, .int i => .int i
  | _, _, .str s => .str s
  | _, _, .lst a r => .lst a (RepA.off r)
  | _, _, .tup a r => .tup a (RepA.off r)
  | _, _, .obj a b r => .obj a b (RepA.off r)
  | _, _, .scr a => .scr a
  | _, _, .clo a b c d => .clo a b c d
  | _, _, .exn a b c r => .exn a b c (RepA.off r)
  | _, _, .pv => .pv
  | _, _, .dck a b r => .dck a b (RepA.off r)
  | _, _, .dcp a b c q r => .dcp a b c q (RepA.off r)
theorem RepA.off {B : Hp} : ∀ {vs : List V} {ds : List D}, RepA (C.at h) B vs ds → RepA C B vs ds
  | _, _, .nil => .nil
  | _, _, .cons a r => .cons (Rep.off a) (RepA.off r)
end
variable {W : Wd} {H : Hp} {M : Mem}
theorem RepV.at {x : V} {v : VD} (r : RepV C W x v) : RepV (C.at h) W x v := by
  cases v with
  | d y => exact Rep.at (show Rep C W.B x y from r)
  | adr i => exact r
theorem RepV.off {x : V} {v : VD} (r : RepV (C.at h) W x v) : RepV C W x v := by
  cases v with
  | d y => exact Rep.off (show Rep (C.at h) W.B x y from r)
  | adr i => exact r
theorem RepVA.at : ∀ {xs : List V} {vs : List VD}, RepVA C W xs vs → RepVA (C.at h) W xs vs
  | _, _, .nil => .nil
  | _, _, .cons a r => .cons (RepV.at a) (RepVA.at r)
theorem RepVA.off : ∀ {xs : List V} {vs : List VD}, RepVA (C.at h) W xs vs → RepVA C W xs vs
  | _, _, .nil => .nil
  | _, _, .cons a r => .cons (RepV.off a) (RepVA.off r)
theorem MoOk.at {a : Addr} {m : MO} (r : MoOk C W H a m) : MoOk (C.at h) W H a m := by
  cases m with
  | dead => exact r
  | lst ds =>
    obtain ⟨q1, vs, q2, q3⟩ := r
    exact ⟨q1, vs, q2, RepA.at q3⟩
  | ins c fs =>
    obtain ⟨q1, dx, vs, q2, q3, q4⟩ := r
    exact ⟨q1, dx, vs, q2, q3, RepVA.at q4⟩
  | lsv ds =>
    obtain ⟨q1, vs, q2, q3⟩ := r
    exact ⟨q1, vs, q2, RepVA.at q3⟩
  | dck ds =>
    obtain ⟨q1, vs, q2, q3⟩ := r
    exact ⟨q1, vs, q2, RepVA.at q3⟩
  | dcp ds =>
    obtain ⟨q1, vs, q2, q3⟩ := r
    exact ⟨q1, vs, q2, RepVA.at q3⟩
theorem MoOk.off {a : Addr} {m : MO} (r : MoOk (C.at h) W H a m) : MoOk C W H a m := by
  cases m with
  | dead => exact r
  | lst ds =>
    obtain ⟨q1, vs, q2, q3⟩ := r
    exact ⟨q1, vs, q2, RepA.off q3⟩
  | ins c fs =>
    obtain ⟨q1, dx, vs, q2, q3, q4⟩ := r
    exact ⟨q1, dx, vs, q2, q3, RepVA.off q4⟩
  | lsv ds =>
    obtain ⟨q1, vs, q2, q3⟩ := r
    exact ⟨q1, vs, q2, RepVA.off q3⟩
  | dck ds =>
    obtain ⟨q1, vs, q2, q3⟩ := r
    exact ⟨q1, vs, q2, RepVA.off q3⟩
  | dcp ds =>
    obtain ⟨q1, vs, q2, q3⟩ := r
    exact ⟨q1, vs, q2, RepVA.off q3⟩
theorem Ok.at (ok : Ok C W H M) (s : Same h W.B) : Ok (C.at h) W H M := ⟨ok.sub, ok.nd, ok.len, fun i a m e1 e2 => (ok.mo i a m e1 e2).at, ok.tab, ok.tbB, s⟩
theorem Ok.off (ok : Ok (C.at h) W H M) (s : Same C.low W.B) : Ok C W H M := ⟨ok.sub, ok.nd, ok.len, fun i a m e1 e2 => (ok.mo i a m e1 e2).off, ok.tab, ok.tbB, s⟩
theorem Slots.at {σ : L2.St} {ρ : Env} (s : Slots C W σ ρ) : Slots (C.at h) W σ ρ := ⟨s.1, fun i d e => let ⟨v, a, b⟩ := s.2 i d e; ⟨v, a, RepV.at b⟩⟩
theorem Slots.off {σ : L2.St} {ρ : Env} (s : Slots (C.at h) W σ ρ) : Slots C W σ ρ := ⟨s.1, fun i d e => let ⟨v, a, b⟩ := s.2 i d e; ⟨v, a, RepV.off b⟩⟩
theorem post.at {E : XK} {Q : VK} {r : Res VD} (l : Same C.low W.B) (p : post C (relV C) E Q W H r) : post (C.at h) (relV (C.at h)) E Q W H r := by
  cases r with
  | ok v M1 => exact fun W1 H1 x s ok rx => p W1 H1 x s (ok.off (l.trans s.le.1)) (RepV.off rx)
  | exc c fs M1 => exact fun W1 H1 dx s ok ea => p W1 H1 dx s (ok.off (l.trans s.le.1)) (Rep.off ea)
  | fail => exact p
theorem post.off {E : XK} {Q : VK} {r : Res VD} (l : Same h W.B) (p : post (C.at h) (relV (C.at h)) E Q W H r) : post C (relV C) E Q W H r := by
  cases r with
  | ok v M1 => exact fun W1 H1 x s ok rx => p W1 H1 x s (ok.at (l.trans s.le.1)) (RepV.at rx)
  | exc c fs M1 => exact fun W1 H1 dx s ok ea => p W1 H1 dx s (ok.at (l.trans s.le.1)) (Rep.at ea)
  | fail => exact p
end
end G
namespace G
open PySem PySem.Spec PyProof.Rows L2
/-- what of the slots never changes -/
def dOnly (ρ : Env) : Env := ρ.map fun o => match o with
  | some (.d x) => some (.d x)
  | _ => none
section
variable {X : Cx} {C : Cf} {E : XK} {CX : CXT} {k : Nat} {lm : Nat → Option (Mx VD)} {nm : Nat → List Str} {isE : Nat → Bool}
/-- x(e): a def of the law that calls lambdas of this def -/
def e_lamcall (m : Env → List VD → Mem → Res VD) (ms : Mx (List VD)) : Mx VD := fun ρ M => (ms ρ M).bind fun vs M1 => if vs.length = 1 then m (dOnly ρ) vs M1 else .fail
end
end G
namespace G
open PySem PySem.Spec PyProof.Rows L2
/-- what is written of an exception class x at a, whose __init__ stands at fI -/
structure ExRow (P : Program) (K : PySem.W.Frag) (mg : Str → Option Value) (x qual : Str) (st : Stmt) (a fI cc cda : Addr) (fl : Str) : Prop where
  at_ : mg x = some (.ref a)
  cls : ∃ nm q N bs bm sn sub ab col dd k0 k1 k2 k3 k5, K.lookup a = some (excClassObj nm q a N bs bm true sn sub ab col dd k0 k1 k2 k3 k5 "ValueError.__new__") ∧ PySem.HandSPX.refsVE bm = true
  sa : PySem.W.findIn K (.ref a) "__setattr__" = some (some (.builtin "object.__setattr__"))
  ga : PySem.W.findIn K (.ref a) "__getattribute__" = some (some (.builtin "BaseException.__getattribute__"))
  gg : PySem.W.findIn K (.ref a) "__getattr__" = some none
  exC : PySem.W.subIn K (.ref a) (.type "BaseException") = some true
  tyC : PySem.W.typeIn K (.ref a) = some (.type "type")
  kC : PySem.W.keepIn K (.ref a) = true
  hdC : PySem.W.hasDictIn K a = true
  n1 : PySem.W.findIn K (.ref a) "code" = some none
  n2 : PySem.W.findIn K (.ref a) fl = some none
  iC : PySem.W.findIn K (.ref a) "__init__" = some (some (.ref fI))
  tI : PySem.W.typeIn K (.ref fI) = some (.type "function")
  fn : ∃ oc od osl dV kV doc pm an ct, K.lookup fI = some ⟨oc, od, .func (iniFn qual (defArgs st) (defBody st) (defScope st) cc dV kV doc pm an (.ref cda) ct), osl⟩ ∧ ∀ us : List Value, us.length = (["self", fl] : List Str).length → bindArgs (iniFn qual (defArgs st) (defBody st) (defScope st) cc dV kV doc pm an (.ref cda) ct) ⟨us, []⟩ = pure ((["self", fl] : List Str).zip us)
  qn : PySem.W.codeIn K (.ref cda) qual = true
  code : ∃ ccl cdd vs ccs file tf, K.lookup cda = some ⟨ccl, cdd, .fields vs, ccs⟩ ∧ vs[2]? = some (.str file tf) ∧ ((P.main.file : Str) == file) = true
  cell : ∃ cl cld csl, K.lookup cc = some ⟨cl, cld, .cell (some (.ref a)), csl⟩
  isC : PySem.W.isClsIn K a = true
  mro : PySem.W.mroIn K a (.ref a) = some true
  sub : PySem.W.subIn K (.ref a) (.type "ValueError") = some true
  sup : PySem.W.ks_superIn K a a "__init__" = some (some (.builtin "ValueError.__init__"))
section
variable {P : Program} {w : World} {K : PySem.W.Frag} {mg : Str → Option Value} {base : Heap} {C : Cf} {x qual : Str} {st : Stmt} {a fI cc cda : Addr} {fl : Str}
theorem ExRow.T (Z : ExRow P K mg x qual st a fI cc cda fl) : OexC K a := ⟨Z.cls, Z.sa, Z.exC, Z.tyC, Z.kC⟩
theorem ExRow.F (Z : ExRow P K mg x qual st a fI cc cda fl) : XfC K a := ⟨Z.ga, Z.gg, Z.exC, Z.hdC⟩
end
end G
namespace G
open PySem PySem.Spec PyProof.Rows L2
def lowC (c : Nat) : Nat := if 65 ≤ c ∧ c ≤ 90 then c + 32 else c
def upC (c : Nat) : Nat := if 97 ≤ c ∧ c ≤ 122 then c - 32 else c
def f_low (x : VD) (M : Mem) : Res VD := match x with
  | .d (.str s) => if s.all (· < 128) ∧ s.length ≤ 5000000 then .ok (.d (.str (s.map lowC))) M else .fail
  | _ => .fail
def f_upp (x : VD) (M : Mem) : Res VD := match x with
  | .d (.str s) => if s.all (· < 128) ∧ s.length ≤ 5000000 then .ok (.d (.str (s.map upC))) M else .fail
  | _ => .fail
section
variable {X : Cx} {C : Cf} {E : XK} {CX : CXT} {k : Nat}
noncomputable def f_mulS : VD → VD → Mem → Res VD
  | .d (.str s), .d (.int j), M => gi (0 ≤ j ∧ j ≤ 1000 ∧ s.length ≤ 1000) (.ok (.d (.str (List.replicate j.toNat s).flatten)) M) .fail
  | _, _, _ => .fail
end
end G
namespace G
open PySem PySem.Spec PyProof.Rows L2
/-- what is written of an exception class x at a, whose __init__ wants nothing -/
structure ExRow0 (P : Program) (K : PySem.W.Frag) (mg : Str → Option Value) (x qual : Str) (st : Stmt) (a fI cc cda : Addr) : Prop where
  at_ : mg x = some (.ref a)
  cls : ∃ nm q N bs bm sn sub ab col dd k0 k1 k2 k3 k5, K.lookup a = some (excClassObj nm q a N bs bm true sn sub ab col dd k0 k1 k2 k3 k5 "ValueError.__new__") ∧ PySem.HandSPX.refsVE bm = true
  sa : PySem.W.findIn K (.ref a) "__setattr__" = some (some (.builtin "object.__setattr__"))
  ga : PySem.W.findIn K (.ref a) "__getattribute__" = some (some (.builtin "BaseException.__getattribute__"))
  gg : PySem.W.findIn K (.ref a) "__getattr__" = some none
  exC : PySem.W.subIn K (.ref a) (.type "BaseException") = some true
  tyC : PySem.W.typeIn K (.ref a) = some (.type "type")
  kC : PySem.W.keepIn K (.ref a) = true
  hdC : PySem.W.hasDictIn K a = true
  n1 : PySem.W.findIn K (.ref a) "code" = some none
  iC : PySem.W.findIn K (.ref a) "__init__" = some (some (.ref fI))
  tI : PySem.W.typeIn K (.ref fI) = some (.type "function")
  fn : ∃ oc od osl dV kV doc pm an ct, K.lookup fI = some ⟨oc, od, .func (iniFn qual (defArgs st) (defBody st) (defScope st) cc dV kV doc pm an (.ref cda) ct), osl⟩ ∧ ∀ us : List Value, us.length = (["self"] : List Str).length → bindArgs (iniFn qual (defArgs st) (defBody st) (defScope st) cc dV kV doc pm an (.ref cda) ct) ⟨us, []⟩ = pure ((["self"] : List Str).zip us)
  qn : PySem.W.codeIn K (.ref cda) qual = true
  code : ∃ ccl cdd vs ccs file tf, K.lookup cda = some ⟨ccl, cdd, .fields vs, ccs⟩ ∧ vs[2]? = some (.str file tf) ∧ ((P.main.file : Str) == file) = true
  cell : ∃ cl cld csl, K.lookup cc = some ⟨cl, cld, .cell (some (.ref a)), csl⟩
  isC : PySem.W.isClsIn K a = true
  mro : PySem.W.mroIn K a (.ref a) = some true
  sub : PySem.W.subIn K (.ref a) (.type "ValueError") = some true
  sup : PySem.W.ks_superIn K a a "__init__" = some (some (.builtin "ValueError.__init__"))
section
variable {P : Program} {w : World} {K : PySem.W.Frag} {mg : Str → Option Value} {base : Heap} {C : Cf} {x qual : Str} {st : Stmt} {a fI cc cda : Addr}
theorem ExRow0.T (Z : ExRow0 P K mg x qual st a fI cc cda) : OexC K a := ⟨Z.cls, Z.sa, Z.exC, Z.tyC, Z.kC⟩
theorem ExRow0.F (Z : ExRow0 P K mg x qual st a fI cc cda) : XfC K a := ⟨Z.ga, Z.gg, Z.exC, Z.hdC⟩
end
end G
namespace G
open PySem PySem.Spec PyProof.Rows L2
mutual
def lay : D → Bool
  | .non => true
  | .bl _ => true
  | .int _ => true
  | .str s => s.all fun c => decide (c < 1114112)
  | .lst xs => layA xs
  | .tup xs => layA xs
  | _ => false
def layA : List D → Bool
  | [] => true
  | x :: xs => lay x && layA xs
end
def f_lidx : List VD → Mem → Res VD
  | [x, y], M => match lstOf M x, datOf M y with
    | some ds, some d => if d.pl 20 && D.plA 19 ds && (lay d && layA ds) then match ds.findIdx? (fun z => D.eqv z d) with
      | some j => .ok (.d (.int j)) M
      | none => .fail else .fail
    | _, _ => .fail
  | _, _ => .fail
def e_lidx (a : Mx VD) (ms : Mx (List VD)) : Mx VD := fun ρ M => (a ρ M).bind fun x M1 => match lstOf M1 x with
  | some _ => (ms ρ M1).bind fun vs M2 => f_lidx (x :: vs) M2
  | none => .fail
end G
namespace G
open PySem PySem.Spec PyProof.Rows L2
section
variable {prog : Program} {w : World} {A : Around} {E : Value → Shared → Prop} {s : Shared}
theorem wpAny_pyNext_enum_endD {e it : Addr} {fp : List Addr} {n : Nat} {P : Nat → Value → Prop} {St : Nat → Heap → Prop} {i : Int} {old : Value} {Q : Option Value → Shared → Prop} (D : Draws prog w A.in1 it fp n P St)
    (he : IsEnum s.heap e it i old) (hst : St n s.heap) (hQ : ∀ h', Heap.ExtBut it s.heap h' → Q none { s with heap := h' }) : wpAny (model prog w) A (pyNext (.ref e)) Q E s := by
  have hT : s.TypeIs (.ref e) "enumerate" := ⟨_, he, rfl⟩
  unfold pyNext
  refine wpAny_bind (wpAny_attempt (wpAny_callSpecial?_slot (name := Str.ofString "__next__") hT F.slot_enumerate_next
    (wpAny_call_entry F.slot_enumerate_next hT F.entry_enumerate_next ?_ (F.args_enumerate_next_1 _))))
  show wpAny _ _ (field (.ref e) 2 >>= _) _ _ _
  refine wpAny_bind (wpAny_field he rfl (x := .ref it) rfl ?_)
  refine wpAny_bind (D.done _ _ _ hst fun h' x he' hx' => ?_)
  obtain ⟨o, ho, hc⟩ := hx'
  refine wpAny_bind (wpAny_isInstance (T := "StopIteration") (b := true) ⟨o, ho, hc⟩ isSubtype_stop ?_)
  exact wpAny_pure (hQ _ he')
end
/-- the text x, each sign in a new pair -/
def ItX (x : Str) : It :=
  ⟨fun i _ => i < x.cps.size, fun i H v H' => ∃ T c, v = .ref T ∧ H T = none ∧ H' = upd H T (.tup [.int (i : Nat), .str ⟨#[c]⟩]) ∧ x.cps[i]? = some c, fun i _ => x.cps.size ≤ i⟩
theorem turn_enumX {P : Program} {w : World} {K : PySem.W.Frag} {elts : List Expr} {kk : Nat} {tpos : Pos} (x : Str) (t : Tok) (e it : Addr) :
    Turn P w K (.Tuple elts kk tpos) (ItX x) [e, it] e (fun i h => (∃ old, IsEnum h e it ((i : Nat) : Int) old) ∧ h.IsStrIter it (strIterType x) x t i ∧ e ≠ it ∧ i ≤ x.cps.size) where
  mem := by simp
  obj := fun i h st b hb => by
    obtain ⟨⟨old, he⟩, ⟨o, ho, hc, hd⟩, _⟩ := st
    have e' : b = e ∨ b = it := by simpa using hb
    rcases e' with z | z
    · rw [z]; exact ⟨_, he, fun v q => nomatch q⟩
    · rw [z]; exact ⟨o, ho, fun v q => by rw [hd] at q; cases q⟩
  keep := fun i h h' st k => let ⟨⟨old, he⟩, hi, hne⟩ := st; ⟨⟨old, k e (by simp) _ he⟩, (let ⟨o, ho, r⟩ := hi; ⟨o, k it (by simp) o ho, r⟩), hne⟩
  item := by
    intro X hP hw hK hc i pins s σ H E I hf st hg
    subst hP hw hK
    obtain ⟨⟨old, he⟩, hit, hne, hle⟩ := st
    have hel : e < s.heap.objs.size := Heap.lt_size he
    have hil : it < s.heap.objs.size := by obtain ⟨_, q, _⟩ := hit; exact Heap.lt_size q
    have hh : X.A.in1.handled = none := I.ok.hd hc
    refine wpAny_pyNext_enum_itemD (Draws.text hh it x t) he hit hg hne (by simp [hne]) fun x' h' tk hP ho hst' hT hsz hk => ?_
    obtain ⟨c, u, hcx, rfl⟩ := hP
    refine ⟨_, rfl, wpAny_letOwnedTupleGo_enum (s := { s with heap := h', toks := tk + 1 }) ho fun h'' he' sb => ?_⟩
    have hT2 : h''.get? s.heap.objs.size = some { cls := .type "tuple", data := .seq #[.int i tk, .str ⟨#[c]⟩ u] } := (sb.2 _ (Nat.ne_of_gt hel)).trans hT
    have new : ObjOk X.prog X.w (upd H s.heap.objs.size (.tup [.int (i : Nat), .str ⟨#[c]⟩])) h'' s.heap.objs.size (.tup [.int (i : Nat), .str ⟨#[c]⟩]) :=
      ⟨by show 2 ≤ sizeLine; decide, [.int i tk, .str ⟨#[c]⟩ u], .cons ⟨_, rfl⟩ (.cons ⟨u, rfl⟩ .nil), ⟨_, hT2, rfl, _, rfl⟩⟩
    have I1 : Inv X pins σ (upd H s.heap.objs.size (.tup [.int (i : Nat), .str ⟨#[c]⟩])) { s with heap := h'', toks := tk + 1 } :=
      I.turnedNew (ch := [e, it]) (fun b ob hb q => (sb.2 b (fun z => hb (by simp [z]))).trans (hk b ob (fun z => hb (by simp [z])) (fun z => hb (by simp [z])) q)) hf (Nat.le_refl _) new
    refine ⟨.ref s.heap.objs.size, _, I1, rfl, ⟨_, c, rfl, I.hok.fresh (Nat.le_refl _), rfl, hcx⟩, ⟨⟨.str ⟨#[c]⟩ u, ?_⟩, (let ⟨o, ho, r⟩ := hst'; ⟨o, (sb.2 it (Ne.symm hne)).trans ho, r⟩), hne, hg⟩, fun b hb => ?_⟩
    · have e1 : ((i + 1 : Nat) : Int) = (i : Int) + 1 := by omega
      rw [e1]; exact he'
    · have hb' : b < s.heap.objs.size := by
        have e' : b = e ∨ b = it := by simpa using hb
        rcases e' with z | z
        · rw [z]; exact hel
        · rw [z]; exact hil
      rw [upd_ne (Nat.ne_of_lt hb')]
      exact (hf b hb).1
  done := by
    intro X hP hw hK hc i pins s σ H E I hf st hg
    subst hP hw hK
    obtain ⟨⟨old, he⟩, hit, hne, hle⟩ := st
    have hle2 : x.cps.size ≤ i := hg
    obtain rfl : i = x.cps.size := Nat.le_antisymm hle hle2
    obtain ⟨f0, f1, f2, f3, f4, f5⟩ := hf it (by simp)
    have hh : X.A.in1.handled = none := I.ok.hd hc
    exact wpAny_pyNext_enum_endD (Draws.text hh it x t) he hit fun h' eb => ⟨rfl, I.turned (t' := s.toks) (fun b o hb q => eb b o hb q) f0 f1 f3 f4 f5⟩
  self := fun A i s Q E st h => let ⟨⟨_, he⟩, _⟩ := st; wpAny_pyIter_enum he h
def iEnumX (ta : TA) : TI := fun σ H R => ta σ H fun vs H1 => ∃ x, vs = [.str x] ∧ R (ItX x) H1
section
variable {prog : Program} {w : World} {A : Around} {E : Value → Shared → Prop} {s : Shared}
theorem call_enum_strX {x : Str} {t : Tok} {Q : Value → Shared → Prop}
    (h : ∀ h', IsEnum h' (s.heap.objs.size + 1) s.heap.objs.size 0 .none → h'.get? s.heap.objs.size = some { cls := .type (strIterType x), data := .fields #[.str x t, .int 0 0] } → h'.objs.size = s.heap.objs.size + 2 → (∀ b o, s.heap.get? b = some o → h'.get? b = some o) → Q (.ref (s.heap.objs.size + 1)) { s with heap := h' }) :
    wpAny (model prog w) A (call (.type "enumerate") [.str x t]) Q E s := by
  refine callType_new F.called_enumerate (by decide) (F.typeCall_enumerate_1 _) (F.newCall_enumerate_1 _) (fun obj => F.args_object_init_2 obj _) F.entry_enumerate_new (meets_enum1 (begins_text x t)) ⟨trivial, ?_⟩
  have hz : (s.heap.push { cls := .type (strIterType x), data := .fields #[.str x t, .int 0 0] }).objs.size = s.heap.objs.size + 1 := Heap.size_push ..
  have he := Heap.get?_push_size (s.heap.push { cls := .type (strIterType x), data := .fields #[.str x t, .int 0 0] }) (o := { cls := .type "enumerate", data := .fields #[.none, .bool false, .ref s.heap.objs.size, rawInt 0, .none, .none] }) rfl
  rw [hz] at he
  show _ ∧ _
  rw [hz]
  exact ⟨⟨_, he, rfl⟩, h _ he (Heap.get?_push_of_some _ (Heap.get?_push_size _ rfl)) (by rw [Heap.size_push, hz]) fun b o x => Heap.get?_push_of_some _ (Heap.get?_push_of_some _ x)⟩
end
theorem pi_enumX {X : Cx} {e : Expr} {ta : TA} {p pos tpos : Pos} {elts : List Expr} {kk : Nat} (hg : Gl X "enumerate") (hm : X.mg "enumerate" = none) (ha : PA X [e] ta) (hs : starEach [e] X.env = [(false, eval e X.env)] := by rfl) :
    PI X (.Tuple elts kk tpos) (.Call (.Name "enumerate" p) [e] [] pos) (iEnumX ta) := by
  refine ⟨fun pins s σ H R I h => ?_⟩
  refine Call_ (ld_blt I hg hm boot_enumerate (PyProof.Rows.callWith_type1 (thn (ha.run pos pins s σ H _ I h) fun us s1 ⟨vs, H1, I1, r1, q1⟩ => ?_) hs rfl))
  obtain ⟨x, ex, q⟩ := q1
  subst ex
  cases r1 with
  | cons r rr =>
    cases rr
    obtain ⟨t, rfl⟩ := r
    refine call_enum_strX fun h' he hit hsz hk => wpAny_pyIter_enum he ?_
    have I2 : Inv X pins σ H1 { s1 with heap := h' } := I1.kept (t' := s1.toks) hk
    refine ⟨s1.heap.objs.size + 1, [s1.heap.objs.size + 1, s1.heap.objs.size], _, _, H1, rfl, I2, turn_enumX x t (s1.heap.objs.size + 1) s1.heap.objs.size, ⟨⟨.none, he⟩, ⟨_, hit, rfl, rfl⟩, Nat.succ_ne_self _, Nat.zero_le _⟩, fun b hb => ?_, q⟩
    have e' : b = s1.heap.objs.size + 1 ∨ b = s1.heap.objs.size := by simpa using hb
    have hle : s1.heap.objs.size ≤ b := by
      rcases e' with z | z
      · rw [z]; exact Nat.le_add_right _ _
      · rw [z]; exact Nat.le_refl _
    exact I1.fpOk hle (I1.hok.fresh hle)
section
variable {X : Cx} {C : Cf} {E : XK}
theorem walks_enumX {W : Wd} {s : List Nat} : Walks C (ItX (enc s)) (enumL (chars s) 0) W where
  go := fun i W2 H M l ok hi => by
    rw [enumL_len] at hi
    show i < (enc s).cps.size
    simpa [enc, chars] using hi
  yld := fun i W2 H M x H' l ok hi y => by
    obtain ⟨T, c, rfl, hT, rfl, hc⟩ := y
    have hc : s[i]? = some c := by simpa [enc] using hc
    obtain ⟨ok', l'⟩ := ok.new (o := .tup [.int (i : Nat), .str ⟨#[c]⟩]) hT
    refine ⟨_, .tup [.int ((0 + i : Nat) : Int), .str [c]], by rw [enumL_get] <;> simp [chars, hc], Step.new ok hT, ok', ?_⟩
    rw [Nat.zero_add]
    exact rep_tup2 (by show upd W2.B T _ T = _; rw [upd_same]; rfl) (.int _) (Rep.str [c])
  stop := fun i W2 H M l ok hi => by
    rw [enumL_len] at hi
    show (enc s).cps.size ≤ i
    simpa [enc, chars] using hi
/-- enumerate over a text -/
def i_enumX (ms : Mx (List VD)) : Mx (List D) := fun ρ M => (ms ρ M).bind fun vs M1 => match vs with
  | [.d (.str s)] => .ok (enumL (chars s) 0) M1
  | _ => .fail
theorem xi_enumX {e : Expr} {ms : Mx (List VD)} {elts : List Expr} {kk : Nat} {tpos p pos : Pos} (hK : C.K = X.K) (hm : X.mg "enumerate" = none) (h : PXA X C E [e] ms) (hg : Gl X "enumerate" := by rfl) (hs : starEach [e] X.env = [(false, eval e X.env)] := by rfl) : PXI X C E (.Tuple elts kk tpos) (.Call (.Name "enumerate" p) [e] [] pos) (i_enumX ms) := by
  obtain ⟨ta, pa, sa⟩ := h
  refine ⟨_, pi_enumX hg hm pa hs, fun W σ H ρ M R ok sl p => ?_⟩
  refine sa W σ H ρ M _ ok sl (post_bind p fun a M1 W1 H1 x l1 ok1 ra p1 => ?_)
  split at p1
  · rename_i _ s
    obtain ⟨y, rfl, r⟩ := ra.one
    cases inv_str (show Rep C W1.B y (.str s) from r)
    exact ⟨_, rfl, post_ok p1 ok1 walks_enumX⟩
  · exact p1.elim
end
end G
namespace G
open PySem PySem.Spec PyProof.Rows L2
structure MakeKOk (P : Program) (w : World) (K : PySem.W.Frag) (mg : Str → Option Value) (base : Heap) (CX : CXT) (C : Cf) (c : Nat) (x kw : Str) (j n : Nat) (m : List VD → Mem → Res VD) : Prop where
  ex : ∃ f fd ps g gV, FnOk P w K mg base CX j f fd ps (spD C (n + 2) m) ∧ KBn K fd ps (n + 1) [kw] g gV ∧ (∀ vs z, gV vs [z] = vs ++ [z]) ∧ Mk K (C.ca c) f
  mg : mg x = some (.ref (C.ca c))
end G
namespace G
open PySem PySem.Spec PyProof.Rows L2 TL
section
variable {X : Cx} {C : Cf} {E : XK} {CX : CXT} {k : Nat}
structure PXt (X : Cx) (C : Cf) (E : XK) (e : Expr) (m : Mx VD) : Prop where
  ex : ∃ te, PET X e te ∧ Sem C E te m
structure PXAt (X : Cx) (C : Cf) (E : XK) (es : List Expr) (m : Mx (List VD)) : Prop where
  ex : ∃ ta, PAT X es ta ∧ SemA C E ta m
theorem PXt.of {e : Expr} {m : Mx VD} (h : PX X C E e m) : PXt X C E e m := by
  obtain ⟨te, pe, se⟩ := h
  exact ⟨te, CwR.PET.of pe, se⟩
theorem PXAt.of {es : List Expr} {m : Mx (List VD)} (h : PXA X C E es m) : PXAt X C E es m := by
  obtain ⟨te, pe, se⟩ := h
  exact ⟨te, fun pos pins s σ H Q _ I q => pe.run pos pins s σ H Q I q, se⟩
end
end G
namespace PySem
namespace OEB
open PySem.W PySem.Calls PyProof.Rows PySem.HandSPX
open Builtin Builtin.ObjectAttr
/-- a built-in class of errors: its name, its two functions, its mro -/
structure BaseX where
  B : String
  nw : String
  ini : String
  bt : List Value
/-- own classes, then bt -/
def tlOk (bt : List Value) : List Value → Bool
  | .ref _ :: r => tlOk bt r
  | l => l == bt
structure BOk (b : BaseX) : Prop where
  facts : ExcBaseFacts b.B b.nw b.ini b.bt
  pass : ∀ self, refuseLoop self "__setattr__" b.bt = pure ()
  kx : PySem.W.KxsFacts b.B b.ini
  ob : b.bt.contains (.type "object") = true
  ne : b.bt.isEmpty = false
end OEB
end PySem
namespace G
open PySem PySem.Spec PyProof.Rows L2 PySem.OEB
/-- a class of the text over the base b -/
structure OexB (b : BaseX) (K : PySem.W.Frag) (Cl : Addr) : Prop where
  cls : ∃ nm q N bs bm sn sub ab col dd k0 k1 k2 k3 k5, K.lookup Cl = some (excClassObj nm q Cl N bs bm true sn sub ab col dd k0 k1 k2 k3 k5 b.nw) ∧ tlOk b.bt bm = true
  sa : PySem.W.findIn K (.ref Cl) "__setattr__" = some (some (.builtin "object.__setattr__"))
  exC : PySem.W.subIn K (.ref Cl) (.type "BaseException") = some true
  tyC : PySem.W.typeIn K (.ref Cl) = some (.type "type")
  kC : PySem.W.keepIn K (.ref Cl) = true
/-- what is written of an exception class x at a, whose __init__ stands at fI -/
structure ExRowB (b : BaseX) (P : Program) (K : PySem.W.Frag) (mg : Str → Option Value) (x qual : Str) (st : Stmt) (a fI cc cda : Addr) (fl : Str) : Prop where
  at_ : mg x = some (.ref a)
  cls : ∃ nm q N bs bm sn sub ab col dd k0 k1 k2 k3 k5, K.lookup a = some (excClassObj nm q a N bs bm true sn sub ab col dd k0 k1 k2 k3 k5 b.nw) ∧ tlOk b.bt bm = true
  sa : PySem.W.findIn K (.ref a) "__setattr__" = some (some (.builtin "object.__setattr__"))
  ga : PySem.W.findIn K (.ref a) "__getattribute__" = some (some (.builtin "BaseException.__getattribute__"))
  gg : PySem.W.findIn K (.ref a) "__getattr__" = some none
  exC : PySem.W.subIn K (.ref a) (.type "BaseException") = some true
  tyC : PySem.W.typeIn K (.ref a) = some (.type "type")
  kC : PySem.W.keepIn K (.ref a) = true
  hdC : PySem.W.hasDictIn K a = true
  n1 : PySem.W.findIn K (.ref a) "code" = some none
  n2 : PySem.W.findIn K (.ref a) fl = some none
  iC : PySem.W.findIn K (.ref a) "__init__" = some (some (.ref fI))
  tI : PySem.W.typeIn K (.ref fI) = some (.type "function")
  fn : ∃ oc od osl dV kV doc pm an ct, K.lookup fI = some ⟨oc, od, .func (iniFn qual (defArgs st) (defBody st) (defScope st) cc dV kV doc pm an (.ref cda) ct), osl⟩ ∧ ∀ us : List Value, us.length = (["self", fl] : List Str).length → bindArgs (iniFn qual (defArgs st) (defBody st) (defScope st) cc dV kV doc pm an (.ref cda) ct) ⟨us, []⟩ = pure ((["self", fl] : List Str).zip us)
  qn : PySem.W.codeIn K (.ref cda) qual = true
  code : ∃ ccl cdd vs ccs file tf, K.lookup cda = some ⟨ccl, cdd, .fields vs, ccs⟩ ∧ vs[2]? = some (.str file tf) ∧ ((P.main.file : Str) == file) = true
  cell : ∃ cl cld csl, K.lookup cc = some ⟨cl, cld, .cell (some (.ref a)), csl⟩
  isC : PySem.W.isClsIn K a = true
  mro : PySem.W.mroIn K a (.ref a) = some true
  sub : PySem.W.subIn K (.ref a) (.type b.B) = some true
  sup : PySem.W.ks_superIn K a a "__init__" = some (some (.builtin b.ini))
section
variable {b : BaseX} {P : Program} {w : World} {K : PySem.W.Frag} {mg : Str → Option Value} {base : Heap} {C : Cf} {x qual : Str} {st : Stmt} {a fI cc cda : Addr} {fl : Str}
theorem ExRowB.T (Z : ExRowB b P K mg x qual st a fI cc cda fl) : OexB b K a := ⟨Z.cls, Z.sa, Z.exC, Z.tyC, Z.kC⟩
theorem ExRowB.F (Z : ExRowB b P K mg x qual st a fI cc cda fl) : XfC K a := ⟨Z.ga, Z.gg, Z.exC, Z.hdC⟩
end
/-- what is written of an exception class x at a, whose __init__ wants nothing -/
structure ExRow0B (b : BaseX) (P : Program) (K : PySem.W.Frag) (mg : Str → Option Value) (x qual : Str) (st : Stmt) (a fI cc cda : Addr) : Prop where
  at_ : mg x = some (.ref a)
  cls : ∃ nm q N bs bm sn sub ab col dd k0 k1 k2 k3 k5, K.lookup a = some (excClassObj nm q a N bs bm true sn sub ab col dd k0 k1 k2 k3 k5 b.nw) ∧ tlOk b.bt bm = true
  sa : PySem.W.findIn K (.ref a) "__setattr__" = some (some (.builtin "object.__setattr__"))
  ga : PySem.W.findIn K (.ref a) "__getattribute__" = some (some (.builtin "BaseException.__getattribute__"))
  gg : PySem.W.findIn K (.ref a) "__getattr__" = some none
  exC : PySem.W.subIn K (.ref a) (.type "BaseException") = some true
  tyC : PySem.W.typeIn K (.ref a) = some (.type "type")
  kC : PySem.W.keepIn K (.ref a) = true
  hdC : PySem.W.hasDictIn K a = true
  n1 : PySem.W.findIn K (.ref a) "code" = some none
  iC : PySem.W.findIn K (.ref a) "__init__" = some (some (.ref fI))
  tI : PySem.W.typeIn K (.ref fI) = some (.type "function")
  fn : ∃ oc od osl dV kV doc pm an ct, K.lookup fI = some ⟨oc, od, .func (iniFn qual (defArgs st) (defBody st) (defScope st) cc dV kV doc pm an (.ref cda) ct), osl⟩ ∧ ∀ us : List Value, us.length = (["self"] : List Str).length → bindArgs (iniFn qual (defArgs st) (defBody st) (defScope st) cc dV kV doc pm an (.ref cda) ct) ⟨us, []⟩ = pure ((["self"] : List Str).zip us)
  qn : PySem.W.codeIn K (.ref cda) qual = true
  code : ∃ ccl cdd vs ccs file tf, K.lookup cda = some ⟨ccl, cdd, .fields vs, ccs⟩ ∧ vs[2]? = some (.str file tf) ∧ ((P.main.file : Str) == file) = true
  cell : ∃ cl cld csl, K.lookup cc = some ⟨cl, cld, .cell (some (.ref a)), csl⟩
  isC : PySem.W.isClsIn K a = true
  mro : PySem.W.mroIn K a (.ref a) = some true
  sub : PySem.W.subIn K (.ref a) (.type b.B) = some true
  sup : PySem.W.ks_superIn K a a "__init__" = some (some (.builtin b.ini))
section
variable {b : BaseX} {P : Program} {w : World} {K : PySem.W.Frag} {mg : Str → Option Value} {base : Heap} {C : Cf} {x qual : Str} {st : Stmt} {a fI cc cda : Addr}
theorem ExRow0B.T (Z : ExRow0B b P K mg x qual st a fI cc cda) : OexB b K a := ⟨Z.cls, Z.sa, Z.exC, Z.tyC, Z.kC⟩
theorem ExRow0B.F (Z : ExRow0B b P K mg x qual st a fI cc cda) : XfC K a := ⟨Z.ga, Z.gg, Z.exC, Z.hdC⟩
end
end G
namespace G
open PySem PySem.Spec PyProof.Rows L2 TL
def daOf : D → Option DA
  | .int n => some (.i n)
  | .str s => some (.s s)
  | _ => none
def daD : DA → D
  | .i n => .int n
  | .s s => .str s
section
variable {κ : Type} [DecidableEq κ]
def valA {α : Type} (kvs : List (κ × α)) (k : κ) : Option α := (kvs.find? fun p => decide (p.1 = k)).map (·.2)
def putA {α : Type} (kvs : List (κ × α)) (k : κ) (v : α) : List (κ × α) := if (kvs.any fun p => decide (p.1 = k)) = true then kvs.map (fun p => if p.1 = k then (p.1, v) else p) else kvs ++ [(k, v)]
end
/-- what a dict holds -/
def dctOf (M : Mem) : VD → Option (List (DA × VD))
  | .d (.dck ks xs) => some (ks.zip (xs.map .d))
  | .adr i => match M[i]? with
    | some (.dck kvs) => some kvs
    | _ => none
  | _ => none
def f_din (neg : Bool) (x d : VD) (M : Mem) : Res VD := match x, dctOf M d with
  | .d k, some kvs => match daOf k with
    | some a => .ok (.d (.bl ((valA kvs a).isSome != neg))) M
    | none => .fail
  | _, _ => .fail
def f_dget (d x : VD) (M : Mem) : Res VD := match x, dctOf M d with
  | .d k, some kvs => match (daOf k).bind (valA kvs) with
    | some v => .ok v M
    | none => .fail
  | _, _ => .fail
section
variable {X : Cx} {C : Cf} {E : XK} {CX : CXT} {k : Nat}
def f_dput (v d x : VD) (M : Mem) : Res Unit := match d, x with
  | .adr i, .d k => match M[i]?, daOf k with
    | some (.dck kvs), some a => if kvs.length < lim then .ok () (M.set i (.dck (putA kvs a v))) else .fail
    | _, _ => .fail
  | _, _ => .fail
def s_dput (m o i : Mx VD) : Sx := fun ρ M => (m ρ M).out fun v M1 => (o ρ M1).out fun x M2 => (i ρ M2).out fun y M3 => (f_dput v x y M3).out fun _ M4 => .nx ρ M4
def f_listD : List VD → Mem → Res VD
  | [d], M => match dctOf M d with
    | some kvs => .ok (.d (.lst (kvs.map fun p => daD p.1))) M
    | none => .fail
  | _, _ => .fail
/-- the variable i's dict -/
def frzD1 (i : Nat) (ρ : Env) (M : Mem) : Option (Env × Mem) := match ρ[i]? with
  | some (some (.adr j)) => match M[j]? with
    | some (.dck kvs) => match dats (kvs.map (·.2)) with
      | some ds => some (ρ.set i (some (.d (.dck (kvs.map (·.1)) ds))), M.set j .dead)
      | none => none
    | _ => none
  | _ => none
def s_frzD (i : Nat) (s : Sx) : Sx := fun ρ M => match frzD1 i ρ M with
  | some (ρ1, M1) => s ρ1 M1
  | none => .fail
noncomputable def dTurn (vs : List Nat) (mg : VD → Env → Option Env) (mt : Mx Bool) (mk mv : Mx VD) (ρ : Env) (d : D) (M : Mem) : Res (Option (DA × VD)) := match mg (.d d) (wipeE ρ vs) with
  | none => .fail
  | some ρ2 => match mt ρ2 M with
    | .ok false M2 => .ok none M2
    | .ok true M2 => match mk ρ2 M2 with
      | .ok (.d kd) M3 => match daOf kd with
        | some a => match mv ρ2 M3 with
          | .ok v M4 => .ok (some (a, v)) M4
          | _ => .fail
        | none => .fail
      | _ => .fail
    | _ => .fail
noncomputable def compD (turn : D → Mem → Res (Option (DA × VD))) : List D → Mem → List (DA × VD) → Res (List (DA × VD))
  | [], M, acc => .ok acc M
  | d :: ds, M, acc => match turn d M with
    | .ok none M2 => compD turn ds M2 acc
    | .ok (some p) M2 => if acc.length < lim then compD turn ds M2 (putA acc p.1 p.2) else .fail
    | _ => .fail
noncomputable def e_dcomp (vs : List Nat) (mi : Mx (List D)) (mg : VD → Env → Option Env) (mt : Mx Bool) (mk mv : Mx VD) : Mx VD := fun ρ M => (mi ρ M).bind fun items M1 => (compD (dTurn vs mg mt mk mv ρ) items M1 []).bind fun kvs M2 => .ok (.adr M2.length) (M2 ++ [.dck kvs])
end
end G
namespace G
open PySem PySem.Spec PyProof.Rows L2 TL
/-- a value put -/
def putE {α : Type} (xs : List (DN × Addr × α)) (k : DN) (a : Addr) (v : α) : List (DN × Addr × α) := if (xs.any fun x => decide (x.1 = k)) = true then xs.map (fun x => if x.1 = k then (x.1, x.2.1, v) else x) else xs ++ [(k, a, v)]
section
variable {X : Cx} {pins : List (Addr × Obj)} {σ : L2.St} {H : Hp} {s : Shared} {D a : Addr}
theorem dcnφ.obj {h : Heap} {xs : List (DN × Addr × V)} (x : dcnφ D xs h) : ∃ o, h.get? D = some o ∧ ∀ v, o.data ≠ .cell v := by
  obtain ⟨h1, h2, us, o, es, ep, r, h3, h4, h5, q⟩ := x
  exact ⟨o, h3, fun v z => by rw [h5] at z; cases z⟩
end
def dnAtoms : List D → Option DN
  | [] => some []
  | .non :: xs => (dnAtoms xs).map (none :: ·)
  | .int i :: xs => (dnAtoms xs).map (some i :: ·)
  | _ => none
def dnOf : D → Option DN
  | .tup xs => dnAtoms xs
  | _ => none
/-- entries beside what they mean -/
def EnR (C : Cf) (B : Hp) (es : List (DN × Addr × V)) (acc : List (DN × D)) : Prop := es.map (·.1) = acc.map (·.1) ∧ (∀ x ∈ es, SqT C.K B x.2.1 (x.1.map nkV)) ∧ RepA C B (es.map (·.2.2)) (acc.map (·.2))
theorem EnR.mono {C : Cf} {B B' : Hp} {es acc} (e : Same B B') (h : EnR C B es acc) : EnR C B' es acc := ⟨h.1, fun x hx => sqT_sub e (h.2.1 x hx), h.2.2.mono e⟩
theorem EnR.any {C : Cf} {B : Hp} {k : DN} : ∀ {es : List (DN × Addr × V)} {acc : List (DN × D)}, es.map (·.1) = acc.map (·.1) → (es.any fun x => decide (x.1 = k)) = acc.any fun x => decide (x.1 = k)
  | [], [], _ => rfl
  | [], _ :: _, h => by simp at h
  | _ :: _, [], h => by simp at h
  | e :: es, p :: acc, h => by
    simp only [List.map_cons, List.cons.injEq] at h
    rw [List.any_cons, List.any_cons, EnR.any (C := C) (B := B) h.2, h.1]
theorem EnR.put {C : Cf} {B : Hp} {k : DN} {a : Addr} {x : V} {d : D} (ha : SqT C.K B a (k.map nkV)) (rx : Rep C B x d) {es : List (DN × Addr × V)} {acc : List (DN × D)} (h : EnR C B es acc) : EnR C B (putE es k a x) (putA acc k d) := by
  obtain ⟨h1, h2, h3⟩ := h
  unfold putE putA
  rw [EnR.any (C := C) (B := B) h1]
  split
  · rename_i hh
    clear hh
    induction es generalizing acc with
    | nil =>
      cases acc with
      | nil => exact ⟨rfl, fun x hx => by simp at hx, .nil⟩
      | cons p acc => simp at h1
    | cons e es ih =>
      cases acc with
      | nil => simp at h1
      | cons p acc =>
        obtain ⟨e1, e2, e3⟩ := e
        obtain ⟨p1, p2⟩ := p
        simp only [List.map_cons, List.cons.injEq] at h1
        obtain ⟨rfl, h1⟩ := h1
        cases h3 with
        | cons r3 h3 =>
          obtain ⟨g1, g2, g3⟩ := ih h1 (fun x hx => h2 x (List.mem_cons_of_mem _ hx)) h3
          have q2 := h2 _ List.mem_cons_self
          by_cases q : e1 = k
          · refine ⟨?_, fun y hy => ?_, ?_⟩
            · simp only [List.map_cons, if_pos q, g1]
            · simp only [List.map_cons, if_pos q] at hy
              rcases List.mem_cons.mp hy with rfl | hy
              · exact q2
              · exact g2 y hy
            · simp only [List.map_cons, if_pos q]
              exact .cons rx g3
          · refine ⟨?_, fun y hy => ?_, ?_⟩
            · simp only [List.map_cons, if_neg q, g1]
            · simp only [List.map_cons, if_neg q] at hy
              rcases List.mem_cons.mp hy with rfl | hy
              · exact q2
              · exact g2 y hy
            · simp only [List.map_cons, if_neg q]
              exact .cons r3 g3
  · refine ⟨by rw [List.map_append, List.map_append, h1]; rfl, fun y hy => ?_, ?_⟩
    · rcases List.mem_append.mp hy with hy | hy
      · exact h2 y hy
      · rw [List.mem_singleton.mp hy]
        exact ha
    · rw [List.map_append, List.map_append]
      exact h3.append (.cons rx .nil)
noncomputable def nTurn (vs : List Nat) (mg : VD → Env → Option Env) (mt : Mx Bool) (mk mv : Mx VD) (ρ : Env) (d : D) (M : Mem) : Res (Option (DN × D)) := match mg (.d d) (wipeE ρ vs) with
  | none => .fail
  | some ρ2 => match mt ρ2 M with
    | .ok false M2 => .ok none M2
    | .ok true M2 => match mk ρ2 M2 with
      | .ok (.d kd) M3 => match dnOf kd with
        | some a => match mv ρ2 M3 with
          | .ok (.d v) M4 => .ok (some (a, v)) M4
          | _ => .fail
        | none => .fail
      | _ => .fail
    | _ => .fail
noncomputable def compN (turn : D → Mem → Res (Option (DN × D))) : List D → Mem → List (DN × D) → Res (List (DN × D))
  | [], M, acc => .ok acc M
  | d :: ds, M, acc => match turn d M with
    | .ok none M2 => compN turn ds M2 acc
    | .ok (some p) M2 => if acc.length < lim then compN turn ds M2 (putA acc p.1 p.2) else .fail
    | _ => .fail
noncomputable def e_dcompN (vs : List Nat) (mi : Mx (List D)) (mg : VD → Env → Option Env) (mt : Mx Bool) (mk mv : Mx VD) : Mx VD := fun ρ M => (mi ρ M).bind fun items M1 => (compN (nTurn vs mg mt mk mv ρ) items M1 []).bind fun kvs M2 => .ok (.d (.dcp (kvs.map (·.1)) (kvs.map (·.2)))) M2
section
variable {X : Cx} {C : Cf} {E : XK} {CX : CXT} {k : Nat}
def f_nget1 (d x : VD) (M : Mem) : Res VD := match x, d with
  | .d kd, .d (.dcp ks xs) => match dnOf kd with
    | some a => .ok (.d ((valA (ks.zip xs) a).getD .non)) M
    | none => .fail
  | _, _ => .fail
def e_nget1 (md mk : Mx VD) : Mx VD := fun ρ M => (md ρ M).bind fun v M1 => match v with
  | .d (.dcp ks xs) => (mk ρ M1).bind fun x M2 => f_nget1 v x M2
  | _ => .fail
def rangeR (n : Nat) : List D := (range 0 n).reverse
noncomputable def i_revR (m : Mx VD) : Mx (List D) := fun ρ M => (m ρ M).bind fun v M1 => match v with
  | .d (.int j) => gi (-(2 ^ 60) < j ∧ j < 2 ^ 60) (.ok (rangeR j.toNat) M1) .fail
  | _ => .fail
def f_max2 : List VD → Mem → Res VD
  | [.d (.int a), .d (.int b)], M => .ok (.d (.int (if b > a then b else a))) M
  | _, _ => .fail
def rMx2 : List V → Hp → VK → Prop := fun xs H Q => ∃ i j, xs = [.int i, .int j] ∧ Q (.int (if j > i then j else i)) H
theorem p_max2 : CallS C E rMx2 f_max2 := fun W H M xs as Q ok ra p => by
  unfold f_max2 at p
  split at p
  · cases ra with
    | cons r1 ra =>
      cases ra with
      | cons r2 ra =>
        cases ra
        cases (show Rep C W.B _ (.int _) from r1)
        cases (show Rep C W.B _ (.int _) from r2)
        exact ⟨_, _, rfl, post_ok p ok (.int _)⟩
  · exact p.elim
theorem xb_max2 {e : Expr} {es : List Expr} {ms : Mx (List VD)} {p pos : Pos} (cx : Cxx X C E CX k) (hm : X.mg "max" = none) (ha : PXA X C E (e :: es) ms) (hg : Gl X "max" := by rfl)
    (he : starEach (e :: es) X.env = (false, eval e X.env) :: starEach es X.env := by rfl) (hpl : (backTo pos (starEach es X.env)).any (·.1) = false := by rfl) : PX X C E (.Call (.Name "max" p) (e :: es) [] pos) (e_bi f_max2 ms) :=
  x_bi (r := rMx2) (call_max2 cx.calm) p_max2 hm boot_max ha hg (by decide) (by decide) he hpl
def a_starS (a : Mx VD) (r : Mx (List VD)) : Mx (List VD) := fun ρ M => (a ρ M).bind fun v M1 => match v with
  | .d (.str s) => if s.length ≤ lim then (r ρ M1).bind fun vs M2 => .ok ((chars s).map .d ++ vs) M2 else .fail
  | _ => .fail
end
end G
namespace PySem
end PySem
namespace G
open PySem PySem.Spec PyProof.Rows L2
section
variable {X : Cx} {C : Cf} {E : XK} {CX : CXT} {k : Nat}
def zipMI (vs : List VD) (M : Mem) : Res (List D) := match vs with
  | [.d (.lst ds), .d (.lst es)] => .ok (zipL ds es) M
  | [.d (.tup ds), .d (.lst es)] => .ok (zipL ds es) M
  | _ => .fail
def i_zipM (ms : Mx (List VD)) : Mx (List D) := fun ρ M => (ms ρ M).bind zipMI
end
end G
namespace G
open PySem PySem.Spec PyProof.Rows L2
/-- the letters of x and the list at b, in new pairs -/
def ItzT (x : Str) (K : PySem.W.Frag) (b : Addr) (n : Nat) : It :=
  ⟨fun i H => i < n ∧ ∃ (ys : List V) (c : Nat) (y : V), SqL K H b ys ∧ x.cps[i]? = some c ∧ ys[i]? = some y,
    fun i H v H' => ∃ T c y, v = .ref T ∧ H T = none ∧ H' = upd H T (.tup [.str ⟨#[c]⟩, y]) ∧ x.cps[i]? = some c ∧ ∀ ys, SqL K H b ys → ys[i]? = some y,
    fun i H => n ≤ i ∧ ∃ ys : List V, SqL K H b ys ∧ n = min x.cps.size ys.length⟩
end G
namespace G
open PySem PySem.Spec PyProof.Rows L2
section
variable {X : Cx} {C : Cf} {E : XK} {CX : CXT} {k : Nat}
/-- a, b, c = x, y, z: things that change among them -/
def s_tupV (n : Nat) (ms : Mx (List VD)) (gs : List VD → Env → Option Env) : Sx := fun ρ M => (ms ρ M).out fun vs M1 => if vs.length = n ∧ n ≤ lim then match gs vs ρ with
    | some ρ' => .nx ρ' M1
    | none => .fail else .fail
theorem xs_tupV {tes es : List Expr} {ts : List Nat} {kk k2 n : Nat} {ms : Mx (List VD)} {gs} {p1 p2 pos : Pos} (c : Cxx X C E CX k) (h : PXA X C E es ms) (hg : PXGs X C ts tes gs) (hn : (assignEach tes X.env).length = n := by rfl) (hst : (assignEach tes X.env).findIdx? (·.1) = none := by rfl)
    (hs : swapsWithSole [.Tuple tes kk p1] (.Tuple es k2 p2) pos.line X.env = pure false := by rfl) (hw : swappedStores [.Tuple tes kk p1] (.Tuple es k2 p2) X.env = pure none := by rfl) (h1 : (assignEach [.Tuple tes kk p1] X.env).map (·.2) = [assign (.Tuple tes kk p1) X.env] := by rfl) :
    PXS X C E (.Assign [.Tuple tes kk p1] (.Tuple es k2 p2) pos) (s_tupV n ms gs) := by
  obtain ⟨ta, pa, sa⟩ := h
  obtain ⟨g, pg, sg⟩ := hg
  refine ⟨_, ps_asg (pe_tup pa) (pg_tup (n := n) c.calm pg hn hst) hs hw h1, fun W σ H ρ M D ok sl p => ?_⟩
  refine sa W σ H ρ M _ ok sl (post_out p fun vs M1 W1 H1 xs l1 ok1 rv p1 => ?_)
  split at p1
  · rename_i hl
    have hx := rv.length
    refine ⟨by rw [hx]; exact lim_le (by omega), fun q hq => ⟨q, xs, rfl, .inl (.inl upd_same), by rw [hx]; exact hl.1, ?_⟩⟩
    refine sg W1 σ _ ρ M1 xs vs _ (ok1.grow (same_upd hq)) (sl.mono l1.le) rv ?_
    cases e : gs vs ρ with
    | none =>
      rw [e] at p1
      exact p1.elim
    | some ρ' =>
      rw [e] at p1
      have p1 : postS C E D W1 H1 (.nx ρ' M1) := p1
      exact fun σ' sl' _ => p1 _ _ _ (Step.grow hq) (ok1.grow (same_upd hq)) sl'
  · exact p1.elim
end
end G
namespace G
open PySem PySem.Spec PyProof.Rows L2
/-- an expression, a statement, statements where the running code is known -/
structure PEc (X : Cx) (b : List Stmt) (e : Expr) (t : TE) : Prop where
  run : ∀ (pins : List (Addr × Obj)) (s : Shared) (σ : L2.St) (H : Hp) (Q : VK), Inv X pins σ H s → t σ H Q → PySem.wpAt (model X.prog X.w) X.A (.func b X.env) (eval e X.env) (EP X pins σ Q) X.xe s
structure PSc (X : Cx) (b : List Stmt) (st : Stmt) (t : L2.TS) : Prop where
  run : ∀ (pins : List (Addr × Obj)) (s : Shared) (σ : L2.St) (H : Hp) (D : Ends), Inv X pins σ H s → t D σ H → PySem.wpAt (model X.prog X.w) X.A (.func b X.env) (exec st X.env) (SP X pins D) X.xe s
section
variable {X : Cx} {b : List Stmt}
theorem PEc.of {e : Expr} {t : TE} (h : PE X e t) : PEc X b e t := ⟨fun pins s σ H Q I q => PySem.wpAt_of_wpAny (h.run pins s σ H Q I q)⟩
theorem PSc.of {e : Stmt} {t : L2.TS} (h : PS X e t) : PSc X b e t := ⟨fun pins s σ H Q I q => PySem.wpAt_of_wpAny (h.run pins s σ H Q I q)⟩
end
end G
namespace L2
open PySem PySem.Spec PyProof.Rows
section
variable {X : Cx}
/-- o.f as a target -/
def gAttr (K : PySem.W.Frag) (ta : TE) (f : Str) : TG := fun y σ H Q => ta σ H fun x H2 => ∃ a C dx fs, x = .ref a ∧ H2 a = some (.ins C dx fs) ∧ Cls K C ∧ NoAttr K C f ∧ fs.length < 1000 ∧ Q σ (upd H2 a (.ins C dx (putF f y fs)))
theorem pg_attr {o : Expr} {ta : TE} {f : Str} {pos : Pos} (ha : PE X o ta) : PG X (.Attribute o f pos) (gAttr X.K ta f) := by
  refine ⟨fun pins s σ H v u Q I r h => ?_⟩
  rw [assign_Attribute]
  refine wpAny_bind (wpAny_holding (thn (ha.run pins s σ H _ I h) fun ov s2 ⟨x, H2, I2, rx, a, C, dx, fs, ex, ea, c, n, l, q2⟩ => ?_))
  subst ex
  obtain rfl : ov = Value.ref a := rx
  refine wpAny_bind (wpAny_standAt (wpAny_bind (wpAny_holding ?_)))
  exact setattr_ok I2 ea c n l r fun s3 I3 => wpAny_release ⟨σ, _, I3, q2⟩
/-- try: body finally: fs; nothing is raised, the body ends at its end -/
def tTryF (tb tf : TS) : TS := fun D σ H => tb { nx := fun σ1 H1 => tf D σ1 H1, rt := fun _ _ => False, bk := fun _ _ => False, ct := fun _ _ => False } σ H
theorem ps_tryF {body fs : List Stmt} {f₀ : Stmt} {tb tf : TS} {pos : Pos} (hx : ∀ e s, X.xe e s → False) (hb : PSs X body tb) (hf : PSs X (f₀ :: fs) tf) : PS X (.Try body [] [] (f₀ :: fs) pos) (tTryF tb tf) := by
  refine ⟨fun pins s σ H D I h => ?_⟩
  refine wpAny_Try_finally (wpAny_mono (hb.run pins s σ H _ I h) (fun fl s1 z => ?_) fun _ _ z => (hx _ _ z).elim)
  cases fl with
  | next =>
    obtain ⟨σ1, H1, I1, q⟩ := z
    refine wpAny_execs_nil ?_
    refine wpAny_mono (hf.run pins s1 σ1 H1 D I1 q) (fun g s2 q2 => ?_) fun _ _ z => (hx _ _ z).elim
    cases g <;> exact q2
  | ret u =>
    obtain ⟨_, _, _, _, _, q⟩ := z
    exact q.elim
  | brk =>
    obtain ⟨_, _, _, q⟩ := z
    exact q.elim
  | cont =>
    obtain ⟨_, _, _, q⟩ := z
    exact q.elim
end
end L2
namespace G
open PySem PySem.Spec PyProof.Rows L2
section
variable {X : Cx} {C : Cf} {E : XK} {CX : CXT} {k : Nat}
def s_tryF (b f : Sx) : Sx := fun ρ M => match b ρ M with
  | .nx ρ1 M1 => f ρ1 M1
  | .exc c fs M1 => .exc c fs M1
  | _ => .fail
theorem xs_tryF {body fs : List Stmt} {f₀ : Stmt} {mb mf : Sx} {pos : Pos} (hb : PXSs X C E0 body mb) (hf : PXSs X C E0 (f₀ :: fs) mf) (hx : ∀ e s, X.xe e s → False) : PXS X C E0 (.Try body [] [] (f₀ :: fs) pos) (s_tryF mb mf) := by
  obtain ⟨tb, pb, sb⟩ := hb
  obtain ⟨tf, pf, sf⟩ := hf
  refine ⟨_, ps_tryF hx pb pf, fun W σ H ρ M D ok sl p => ?_⟩
  refine sb W σ H ρ M _ ok sl ?_
  unfold s_tryF at p
  cases q : mb ρ M with
  | nx ρ1 M1 =>
    rw [q] at p
    exact fun W1 H1 σ1 s1 ok1 sl1 => sf W1 σ1 H1 ρ1 M1 D ok1 sl1 (p.mono s1)
  | exc c fs M1 =>
    rw [q] at p
    exact p
  | ret _ _ => rw [q] at p; exact p.elim
  | brk _ _ => rw [q] at p; exact p.elim
  | ct _ _ => rw [q] at p; exact p.elim
  | fail => rw [q] at p; exact p.elim
abbrev Ga := List VD → Sx
structure PXGa (X : Cx) (C : Cf) (E : XK) (tes : List Expr) (gs : Ga) : Prop where
  ex : ∃ g, PGs X tes g ∧ ∀ W σ H ρ M vs ds D, Ok C W H M → Slots C W σ ρ → RepVA C W vs ds → postS C E D W H (gs ds ρ M) → g vs σ H D.nx
def ga_nil : Ga := fun vs ρ M => match vs with
  | [] => .nx ρ M
  | _ => .fail
theorem xga_nil : PXGa X C E [] ga_nil := ⟨_, pgs_nil, fun W σ H ρ M vs ds D ok sl r p => by
  unfold ga_nil at p
  cases r with
  | nil => exact ⟨rfl, p _ _ _ (Step.refl _ _) ok sl⟩
  | cons _ _ => exact p.elim⟩
def ga_fld (tab : Nat → Option Nat) (o : Mx VD) (gs : Ga) : Ga := fun vs ρ M => match vs with
  | v :: r => (o ρ M).out fun x M2 => (f_put tab v x M2).out fun _ M3 => gs r ρ M3
  | [] => .fail
theorem xga_fld {tab : Nat → Option Nat} {o : Expr} {es : List Expr} {f : Str} {mo : Mx VD} {gs : Ga} {p' : Pos} (hK : C.K = X.K) (hf : ∀ c i, tab c = some i → Fld C f c i) (hn : ∀ c, (C.nm c).length < 1000) (ho : PX X C E o mo) (h2 : PXGa X C E es gs)
    (hs : (assignEach (.Attribute o f p' :: es) X.env).map (·.2) = assign (.Attribute o f p') X.env :: (assignEach es X.env).map (·.2) := by rfl) : PXGa X C E (.Attribute o f p' :: es) (ga_fld tab mo gs) := by
  obtain ⟨to, po, so⟩ := ho
  obtain ⟨g, pg, sg⟩ := h2
  refine ⟨_, pgs_cons (pg_attr po) pg hs, fun W σ H ρ M vs ds D ok sl r p => ?_⟩
  cases r with
  | nil => exact p.elim
  | @cons vv vr v dr rv rr =>
    refine ⟨vv, vr, rfl, ?_⟩
    refine so W σ H ρ M _ ok sl (post_out (show postS C E D W H ((mo ρ M).out fun x M2 => (f_put tab v x M2).out fun _ M3 => gs dr ρ M3) from p) fun x M2 W2 H2 vx l2 ok2 rx p2 => ?_)
    have rv := rv.mono l2.le
    have rr := rr.mono l2.le
    have sl2 := sl.mono l2.le
    unfold f_put at p2
    split at p2
    · rename_i j
      split at p2
      · rename_i c fs e0
        split at p2
        · rename_i i e1
          split at p2
          · rename_i hi
            obtain ⟨q1, q2, q3⟩ := hf c i e1
            obtain ⟨a, rfl, ha⟩ := rx
            obtain ⟨hB, dx, vs, h1, h2, h3⟩ := ok2.mo j a _ ha e0
            have hlen := h3.length
            have hz := zip_put (v := vv) vs q3 (by omega) h2
            refine ⟨a, _, dx, _, rfl, h1, by rw [← hK]; exact q1, by rw [← hK]; exact q2, ?_, ?_⟩
            · rw [List.length_zip]
              have := hn c
              omega
            · rw [hz]
              have lt := ixOf_lt q3
              have ok3 := ok2.write (o := .ins (C.ca c) dx ((C.nm c).zip (if i < vs.length then vs.set i vv else vs ++ [vv]))) (m := .ins c (if i < fs.length then fs.set i v else fs ++ [v])) ha e0 (fun z => by cases z) ⟨hB, dx, _, upd_same, by
                split
                · rw [List.length_set]; exact h2
                · rw [List.length_append]; simp; omega, by
                rw [hlen]
                split
                · exact RepVA.set rv i h3
                · exact h3.append (.cons rv .nil)⟩
              exact sg W2 σ _ ρ _ vr dr D ok3 sl2 rr (postS.mono (Step.write ha) p2)
          · exact p2.elim
        · exact p2.elim
      · exact p2.elim
    · exact p2.elim
/-- o.f, p.g = a, b -/
def s_asgA (n : Nat) (ms : Mx (List VD)) (gs : Ga) : Sx := fun ρ M => (ms ρ M).out fun vs M1 => if vs.length = n ∧ n ≤ lim then gs vs ρ M1 else .fail
theorem xs_asgA {tes es : List Expr} {kk k2 n : Nat} {ms : Mx (List VD)} {gs : Ga} {p1 p2 pos : Pos} (c : Cxx X C E CX k) (h : PXA X C E es ms) (hg : PXGa X C E tes gs) (hn : (assignEach tes X.env).length = n := by rfl) (hst : (assignEach tes X.env).findIdx? (·.1) = none := by rfl)
    (hs : swapsWithSole [.Tuple tes kk p1] (.Tuple es k2 p2) pos.line X.env = pure false := by rfl) (hw : swappedStores [.Tuple tes kk p1] (.Tuple es k2 p2) X.env = pure none := by rfl) (h1 : (assignEach [.Tuple tes kk p1] X.env).map (·.2) = [assign (.Tuple tes kk p1) X.env] := by rfl) :
    PXS X C E (.Assign [.Tuple tes kk p1] (.Tuple es k2 p2) pos) (s_asgA n ms gs) := by
  obtain ⟨ta, pa, sa⟩ := h
  obtain ⟨g, pg, sg⟩ := hg
  refine ⟨_, ps_asg (pe_tup pa) (pg_tup (n := n) c.calm pg hn hst) hs hw h1, fun W σ H ρ M D ok sl p => ?_⟩
  refine sa W σ H ρ M _ ok sl (post_out p fun vs M1 W1 H1 xs l1 ok1 rv p1 => ?_)
  split at p1
  · rename_i hl
    have hx := rv.length
    refine ⟨by rw [hx]; exact lim_le (by omega), fun q hq => ⟨q, xs, rfl, .inl (.inl upd_same), by rw [hx]; exact hl.1, ?_⟩⟩
    exact sg W1 σ _ ρ M1 xs vs D (ok1.grow (same_upd hq)) (sl.mono l1.le) rv (postS.mono (Step.grow hq) p1)
  · exact p1.elim
end
end G
namespace G
open PySem PySem.W PySem.Spec PyProof.Rows L2
open Builtin Builtin.Str Builtin.Int Builtin.Float
theorem sp1 : ∀ name, parseFormatSpec (Str.ofString ">4").cps.toList name 60 = .ok { align := 62, width := some 4 } := fun name => by kernel_rfl
theorem sp2 : ∀ name, parseFormatSpec (Str.ofString "<3").cps.toList name 60 = .ok { align := 60, width := some 3 } := fun name => by kernel_rfl
theorem sp3 : ∀ name, parseFormatSpec (Str.ofString ">4").cps.toList name 62 = .ok { align := 62, width := some 4 } := fun name => by kernel_rfl
/-- the field's text -/
def fieldT (right : Bool) (w : Nat) (x : Str) : Str := if right then Txt.rjust x w else Txt.ljust x w
structure SpOk (sp : Str) (right : Bool) (w : Nat) : Prop where
  p : ∀ name, parseFormatSpec sp.cps.toList name 60 = .ok { align := if right then 62 else 60, width := some w }
  ne : (sp.length == 0) = false
  sz : sp.length ≤ sizeLine
  asc : ((sp.cps.toList.drop 1).any (· ≥ 128) || (sp.cps.getD 0 0 ≥ 128 && !([60, 62, 61, 94] : List Nat).contains (sp.cps.getD 1 0))) = false
  bk : (sp.cps.back? == some 0) = false
  lw : w ≤ 1000
theorem spOk1 : SpOk (Str.ofString ">4") true 4 := ⟨sp1, by decide +kernel, by decide +kernel, by decide +kernel, by decide +kernel, by decide⟩
theorem spOk2 : SpOk (Str.ofString "<3") false 3 := ⟨sp2, by decide +kernel, by decide +kernel, by decide +kernel, by decide +kernel, by decide⟩
section
variable {prog : Program} {w : World} {A : Around} {E : Value → Shared → Prop} {s : Shared} {t : Tok} {x sp : Str} {right : Bool} {wd : Nat}
theorem strSub_whole {x : Str} : strSub x 0 x.length = x := by
  unfold strSub
  simp [Str.length]
theorem strField_ok {name : String} : strField x { align := if right then 62 else 60, width := some wd } name = .ok (if wd ≤ x.length then none else some (fieldT right wd x)) := by
  unfold strField
  cases right
  · by_cases h : wd ≤ x.length
    · simp [h]; rfl
    · simp [h, fieldT, Txt.ljust, strSub_whole]
      rfl
  · by_cases h : wd ≤ x.length
    · simp [h]; rfl
    · simp [h, fieldT, Txt.rjust, strSub_whole]
      rfl
theorem fld_text {Q : Value → Shared → Prop} (k : SpOk sp right wd) (hx : x.length ≤ 100000) (h : ∀ t' k, Q (.str (fieldT right wd x) t') { s with toks := k }) : wpAny (model prog w) A (formatField (.str x t) sp) Q E s := by
  refine KXf.field_str rfl rfl k.ne k.sz (fun u => ?_) h
  apply KPc.meets_of
  intro prog w A s Q E hQ
  unfold Builtin.«str.__format__»
  refine wpAny_bind (wpAny_of_eq (a := (_, _, _)) rfl ?_)
  refine wpAny_bind (wpAny_of_eq (a := some _) rfl ?_)
  dsimp only
  rw [k.ne, k.asc]
  refine wpAny_bind (KXf.cut_str ?_)
  have tl : tooLong wd = false := by
    have := k.lw
    have e := sizeLine_eq
    unfold tooLong
    simp
    omega
  simp only [k.p, k.bk, Bool.and_false, Bool.false_eq_true, if_false]
  simp only [bind, Except.bind, Option.getD_some, tl, Bool.false_eq_true, if_false, strField_ok]
  by_cases hw : wd ≤ x.length
  · have e : fieldT right wd x = x := by unfold fieldT Txt.rjust Txt.ljust; cases right <;> simp [hw]
    rw [e] at hQ
    simp only [hw, if_true]
    refine wpAny_bind (wpAny_rule ?_)
    exact KXf.ret_same rfl hQ
  · simp only [hw, if_false]
    refine KXf.ret_text rfl ?_ hQ
    have := k.lw
    have e := sizeLine_eq
    have hl : (fieldT right wd x).length ≤ x.length + wd := by
      unfold fieldT Txt.rjust Txt.ljust
      cases right
      · simp only [Bool.false_eq_true, if_false]
        split
        · omega
        · first | (simp [padded, Str.length]; done) | (simp [padded, Str.length]; omega)
      · simp only [if_true]
        split
        · omega
        · first | (simp [padded, Str.length]; done) | (simp [padded, Str.length]; omega)
    omega
end
end G
namespace G
open PySem PySem.W PySem.Spec PyProof.Rows L2
open Builtin Builtin.Str Builtin.Int Builtin.Float
section
variable {prog : Program} {w : World} {A : Around} {E : Value → Shared → Prop} {s : Shared} {t : Tok}
theorem fld_int {n : Nat} {Q : Value → Shared → Prop} (hn : (n : Int).natAbs.log2 < 1920) (hd : (Nat.toDigits 10 n).length ≤ 1000) (h : ∀ t' k, Q (.str (intSpecText { align := 62, width := some 4 } n) t') { s with toks := k }) : wpAny (model prog w) A (formatField (.int n t) (Str.ofString ">4")) Q E s := by
  obtain ⟨f, hf⟩ : ∃ f : FormatSpec, f = { align := 62, width := some 4 } := ⟨_, rfl⟩
  have hp : parseFormatSpec (Str.ofString ">4").cps.toList "int" 62 = .ok f := by rw [hf]; exact sp3 _
  have hty : f.type.getD (if (Str.ofString ">4").cps.back? == some 0 then 0 else 100) = 100 := by rw [hf]; decide +kernel
  have hpr : f.precision = none := by rw [hf]
  have hz : f.noNeg0 = false := by rw [hf]
  have hal : f.alt = false := by rw [hf]
  have hgr : f.grouping = none := by rw [hf]
  have hsg : f.sign = none := by rw [hf]
  have hw : f.width.getD 0 ≤ 100000 := by rw [hf]; decide
  rw [← hf] at h
  have hlen : (intSpecText f n).length ≤ sizeLine := by
    rw [intSpecText_length n hgr hsg, sizeLine_eq]
    show _ ≤ 16777216
    have hd' : (Nat.toDigits 10 (n : Int).natAbs).length ≤ 1000 := hd
    split <;> omega
  have hne : ((Str.ofString ">4").length == 0) = false := by decide +kernel
  refine KXf.field_int (y := intSpecText f n) rfl hne (by decide +kernel) (fun u => ?_) h
  apply KPc.meets_of
  intro prog w A s Q E hQ
  unfold Builtin.«int.__format__»
  refine wpAny_bind (wpAny_of_eq (a := (_, _)) rfl ?_)
  refine wpAny_bind (wpAny_of_eq (a := _) rfl ?_)
  rw [if_neg (by rw [show (Value.str (Str.ofString ">4") u == Value.none) = false from rfl]; simp)]
  refine wpAny_bind (wpAny_typeNameOf (T := "str") (typeIs_str _ _ _) (by decide) fun _ => ?_)
  refine wpAny_bind (wpAny_of_eq (a := some _) rfl ?_)
  dsimp only
  rw [if_neg (by decide +kernel)]
  rw [if_neg (by decide +kernel)]
  refine wpAny_bind (wpAny_typeNameOfCut_int ?_)
  simp only [hp, hty]
  rw [if_pos (by decide)]
  show wpAny _ _ (if _ then _ else _) _ _ _
  rw [if_neg (by simp [hpr])]
  show wpAny _ _ (if _ then _ else _) _ _ _
  rw [if_neg (by simp [hz])]
  show wpAny _ _ (if _ then _ else _) _ _ _
  rw [if_neg (by decide)]
  show wpAny _ _ (do let r ← Builtin.overDigitLimit? n; _) _ _ _
  refine wpAny_bind (wpAny_of_eq (PyProof.Rows.overDigitLimit_small hn) ?_)
  show wpAny _ _ (if _ then _ else _) _ _ _
  have hw' : ¬ (f.width.getD 0 > 100000) := by omega
  rw [if_neg (by simpa using hw')]
  refine (fun e => KXf.ret_text e (by rw [e]; exact hlen) hQ) ?_
  simp only [hal, Bool.false_eq_true, if_false, show ((10 : Nat) == 10) = true by decide, if_true]
  conv => lhs; whnf
  simp only [intSpecText, intField', hgr, hsg, hal, Bool.false_eq_true, if_false, show ((10 : Nat) == 10) = true by decide, if_true]
  rfl
theorem field_num {n : Nat} : intSpecText { align := 62, width := some 4 } (n : Int) = fieldT true 4 (Str.ofString (toString (n : Int))) := by
  have e : Str.ofString (toString (n : Int)) = ⟨((Nat.toDigits 10 n).map Char.toNat).toArray⟩ := text_ofNat n
  have n0 : ¬ ((n : Int) < 0) := by omega
  have ne : (Nat.toDigits 10 n).isEmpty = false := by
    have := tDigits_len_ge 10 n
    cases q : Nat.toDigits 10 n with
    | nil => rw [q] at this; simp at this
    | cons a l => rfl
  rw [e]
  unfold intSpecText intField' fieldT Txt.rjust
  rw [show (n : Int).natAbs = n from rfl]
  generalize Nat.toDigits 10 n = DS at *
  simp [n0, ne, Str.length, padded]
  split
  · rw [show (4 - DS.length : Nat) = 0 by omega]
    rfl
  · congr 1
    apply Array.ext'
    simp
end
end G
namespace G
open PySem PySem.W PySem.Spec PyProof.Rows L2
section
variable {X : Cx} {right : Bool} {wd : Nat} {sp : Str}
theorem pe_fmtS {e spec : Expr} {te : TE} {pos : Pos} (k : SpOk sp right wd) (he : PE X e te) (hsp : PE X spec (fun _ H Q => Q (.str sp) H)) : PE X (.FormattedValue e (-1) (some spec) pos) (fun σ H Q => te σ H fun x H1 => ∃ y : Str, x = .str y ∧ y.length ≤ 100000 ∧ Q (.str (fieldT right wd y)) H1) := by
  refine ⟨fun pins s σ H Q I h => ?_⟩
  refine wpAny_FormattedValue_spec (thn (he.run pins s σ H _ I h) fun v s1 hv => ?_)
  obtain ⟨x, H1, I1, r1, y, rfl, hz, q⟩ := hv
  obtain ⟨t, rfl⟩ := r1
  refine thn (hsp.run pins s1 σ H1 (fun x H' => x = .str sp ∧ H' = H1) I1 ⟨rfl, rfl⟩) fun r s2 hr => ?_
  obtain ⟨x2, H2, I2, r2, rfl, rfl⟩ := hr
  obtain ⟨t2, rfl⟩ := r2
  exact ⟨sp, t2, rfl, fld_text k hz fun t' k' => ⟨.str (fieldT right wd y), H2, I2.tok _, ⟨_, rfl⟩, q⟩⟩
/-- {n:>4} -/
theorem pe_fmtN {e spec : Expr} {te : TE} {pos : Pos} (he : PE X e te) (hsp : PE X spec (fun _ H Q => Q (.str (Str.ofString ">4")) H)) : PE X (.FormattedValue e (-1) (some spec) pos) (fun σ H Q => te σ H fun x H1 => ∃ n : Nat, x = .int n ∧ (n : Int).natAbs.log2 < 1920 ∧ (Nat.toDigits 10 n).length ≤ 1000 ∧ Q (.str (fieldT true 4 (Str.ofString (toString (n : Int))))) H1) := by
  refine ⟨fun pins s σ H Q I h => ?_⟩
  refine wpAny_FormattedValue_spec (thn (he.run pins s σ H _ I h) fun v s1 hv => ?_)
  obtain ⟨x, H1, I1, r1, n, rfl, hz, hd, q⟩ := hv
  obtain ⟨t, rfl⟩ := r1
  refine thn (hsp.run pins s1 σ H1 (fun x H' => x = .str (Str.ofString ">4") ∧ H' = H1) I1 ⟨rfl, rfl⟩) fun r s2 hr => ?_
  obtain ⟨x2, H2, I2, r2, rfl, rfl⟩ := hr
  obtain ⟨t2, rfl⟩ := r2
  refine ⟨_, t2, rfl, fld_int hz hd fun t' k' => ?_⟩
  rw [field_num]
  exact ⟨.str (fieldT true 4 (Str.ofString (toString (n : Int)))), H2, I2.tok _, ⟨_, rfl⟩, q⟩
end
end G
namespace G
open PySem PySem.Spec PyProof.Rows L2
section
variable {X : Cx} {C : Cf} {E : XK} {CX : CXT} {k : Nat}
/-- the letters of a field -/
def padL (right : Bool) (w : Nat) (a : List Nat) : List Nat := if right then List.replicate (w - a.length) 32 ++ a else a ++ List.replicate (w - a.length) 32
theorem fieldT_enc {right : Bool} {w : Nat} {a : List Nat} : fieldT right w (enc a) = enc (padL right w a) := by
  have hl : (enc a).length = a.length := by simp [enc, Str.length]
  unfold fieldT padL Txt.rjust Txt.ljust
  cases right
  · simp only [Bool.false_eq_true, if_false, hl]
    split
    · rw [show w - a.length = 0 by omega]
      simp
    · simp [Builtin.Str.padded, enc]
  · simp only [if_true, hl]
    split
    · rw [show w - a.length = 0 by omega]
      simp
    · simp [Builtin.Str.padded, enc]
end
end G
namespace G
open PySem PySem.Spec PyProof.Rows L2
section
variable {X : Cx} {C : Cf} {E : XK} {CX : CXT} {k : Nat}
theorem fieldT_len {right : Bool} {w : Nat} {a : List Nat} : (padL right w a).length = max w a.length := by
  unfold padL
  cases right <;> simp <;> omega
/-- a text in a field -/
def f_fmtS (right : Bool) (w : Nat) : VD → Mem → Res VD
  | .d (.str s), M => if s.length ≤ 100000 then .ok (.d (.str (padL right w s))) M else .fail
  | _, _ => .fail
def e_fmtS (right : Bool) (w : Nat) (m : Mx VD) : Mx VD := fun ρ M => (m ρ M).bind (f_fmtS right w)
theorem x_fmtS {e : Expr} {m : Mx VD} {sp : Str} {right : Bool} {w : Nat} {j} {p2 p3 pos : Pos} (k : SpOk sp right w) (h : PX X C E e m) : PX X C E (.FormattedValue e (-1) (some (.JoinedStr [.Constant (.str sp) j p2] p3)) pos) (e_fmtS right w m) := by
  obtain ⟨te, pe, se⟩ := h
  refine ⟨_, pe_fmtS k pe (pe_joined1 pe_str), fun W σ H ρ M Q ok sl p => se W σ H ρ M _ ok sl (post_bind p fun v M1 W1 H1 x l1 ok1 ra p1 => ?_)⟩
  unfold f_fmtS at p1
  split at p1
  · split at p1
    · rename_i h
      cases inv_str ra
      refine ⟨_, rfl, by rw [enc_len]; exact h, ?_⟩
      rw [fieldT_enc]
      exact post_ok p1 ok1 (.str _)
    · exact p1.elim
  · exact p1.elim
/-- a number in a field -/
noncomputable def f_fmtN : VD → Mem → Res VD
  | .d (.int i), M => gi (0 ≤ i ∧ i ≤ 1000000) (.ok (.d (.str (padL true 4 (itoa i)))) M) .fail
  | _, _ => .fail
noncomputable def e_fmtN (m : Mx VD) : Mx VD := fun ρ M => (m ρ M).bind f_fmtN
theorem digs_le {n : Nat} (h : n ≤ 1000000) : (Nat.toDigits 10 n).length ≤ 1000 := by
  have := Nat.length_toDigits_le_iff (b := 10) (n := n) (k := 7) (by decide) (by decide)
  have h7 : (Nat.toDigits 10 n).length ≤ 7 := this.mpr (by omega)
  omega
theorem x_fmtN {e : Expr} {m : Mx VD} {j} {p2 p3 pos : Pos} (h : PX X C E e m) : PX X C E (.FormattedValue e (-1) (some (.JoinedStr [.Constant (.str (Str.ofString ">4")) j p2] p3)) pos) (e_fmtN m) := by
  obtain ⟨te, pe, se⟩ := h
  refine ⟨_, pe_fmtN pe (pe_joined1 pe_str), fun W σ H ρ M Q ok sl p => se W σ H ρ M _ ok sl (post_bind p fun v M1 W1 H1 x l1 ok1 ra p1 => ?_)⟩
  unfold f_fmtN at p1
  split at p1
  · unfold gi at p1
    split at p1
    · rename_i i h
      cases inv_int ra
      obtain ⟨n, rfl⟩ : ∃ n : Nat, i = n := ⟨i.toNat, by omega⟩
      have hn : n ≤ 1000000 := by omega
      refine ⟨n, rfl, ?_, digs_le hn, ?_⟩
      · show n.log2 < 1920
        by_cases h0 : n = 0
        · subst h0
          decide
        · rw [Nat.log2_lt h0]
          exact Nat.lt_of_le_of_lt hn (Nat.lt_of_lt_of_le (by decide : (1000000 : Nat) < 2 ^ 20) (Nat.pow_le_pow_right (by decide) (by decide)))
      · rw [← enc_itoa, fieldT_enc]
        exact post_ok p1 ok1 (.str _)
    · exact p1.elim
  · exact p1.elim
noncomputable def f_pad (right : Bool) (x y : VD) (M : Mem) : Res VD := match x, y with
  | .d (.str a), .d (.int i) => gi (0 ≤ i ∧ i ≤ 1000) (.ok (.d (.str (padL right i.toNat a))) M) .fail
  | _, _ => .fail
theorem pad_ok {i : Int} (h : 0 ≤ i ∧ i ≤ 1000) : PadOk i = true := by
  unfold PadOk fitsSsize Builtin.Str.tooLong
  have e := sizeLine_eq
  simp
  omega
theorem just_r {a : List Nat} {n : Nat} : Txt.rjust (enc a) (n : Int) = enc (padL true n a) := by rw [← fieldT_enc]; unfold fieldT; rfl
theorem just_l {a : List Nat} {n : Nat} : Txt.ljust (enc a) (n : Int) = enc (padL false n a) := by rw [← fieldT_enc]; unfold fieldT; rfl
theorem p_rjust : OpS C E (fun x y H Q => ∃ (a : Str) (i : Int), x = .str a ∧ [y] = [.int i] ∧ PadOk i = true ∧ Q (.str (Txt.rjust a i)) H) (f_pad true) := fun W H M x y a b Q ok ra rb p => by
  unfold f_pad at p
  split at p
  · unfold gi at p
    split at p
    · rename_i i h
      cases inv_str ra
      cases inv_int rb
      refine ⟨_, _, rfl, rfl, pad_ok h, ?_⟩
      obtain ⟨n, rfl⟩ : ∃ n : Nat, i = n := ⟨i.toNat, by omega⟩
      rw [just_r]
      exact post_ok p ok (.str _)
    · exact p.elim
  · exact p.elim
theorem p_ljust : OpS C E (fun x y H Q => ∃ (a : Str) (i : Int), x = .str a ∧ [y] = [.int i] ∧ PadOk i = true ∧ Q (.str (Txt.ljust a i)) H) (f_pad false) := fun W H M x y a b Q ok ra rb p => by
  unfold f_pad at p
  split at p
  · unfold gi at p
    split at p
    · rename_i i h
      cases inv_str ra
      cases inv_int rb
      refine ⟨_, _, rfl, rfl, pad_ok h, ?_⟩
      obtain ⟨n, rfl⟩ : ∃ n : Nat, i = n := ⟨i.toNat, by omega⟩
      rw [just_l]
      exact post_ok p ok (.str _)
    · exact p.elim
  · exact p.elim
theorem x_rjust {o e : Expr} {ma mb : Mx VD} {apos pos : Pos} (ha : PX X C E o ma) (hb : PX X C E e mb) (hs : starEach [e] X.env = [(false, eval e X.env)] := by rfl) (hbase : attributeBase o "rjust" X.env (eval o X.env) = eval o X.env := by rfl) (hline : (apos.endLine == pos.line) = true := by rfl) :
    PX X C E (.Call (.Attribute o "rjust" apos) [e] [] pos) (e_m1 (f_pad true) ma mb) := by
  obtain ⟨ta, pa, sa⟩ := ha
  obtain ⟨tb, pb, sb⟩ := hb
  exact ⟨_, pe_m1 F.slot_str_rjust F.type_str_rjust mt_rjust pa pb hs hbase hline, sem_m1 (C := C) (E := E) (r := fun x xs H Q => ∃ (a : Str) (i : Int), x = .str a ∧ xs = [.int i] ∧ PadOk i = true ∧ Q (.str (Txt.rjust a i)) H) p_rjust sa sb⟩
theorem x_ljust {o e : Expr} {ma mb : Mx VD} {apos pos : Pos} (ha : PX X C E o ma) (hb : PX X C E e mb) (hs : starEach [e] X.env = [(false, eval e X.env)] := by rfl) (hbase : attributeBase o "ljust" X.env (eval o X.env) = eval o X.env := by rfl) (hline : (apos.endLine == pos.line) = true := by rfl) :
    PX X C E (.Call (.Attribute o "ljust" apos) [e] [] pos) (e_m1 (f_pad false) ma mb) := by
  obtain ⟨ta, pa, sa⟩ := ha
  obtain ⟨tb, pb, sb⟩ := hb
  exact ⟨_, pe_m1 F.slot_str_ljust F.type_str_ljust mt_ljust pa pb hs hbase hline, sem_m1 (C := C) (E := E) (r := fun x xs H Q => ∃ (a : Str) (i : Int), x = .str a ∧ xs = [.int i] ∧ PadOk i = true ∧ Q (.str (Txt.ljust a i)) H) p_ljust sa sb⟩
end
end G
namespace G
open PySem PySem.Spec PyProof.Rows L2
def e_makeKO (c n : Nat) (m : List VD → Mem → Res VD) (ms : Mx (List VD)) (mk : Mx VD) : Mx VD := fun ρ M => (ms ρ M).bind fun vs M1 => (mk ρ M1).bind fun v M2 => if vs.length = n then (mkI c m (vs ++ [v]) M2).bind fun _ M3 => .ok (.adr M2.length) M3 else .fail
section
variable {X : Cx} {C : Cf} {E : XK} {CX : CXT} {k : Nat}
theorem x_makeKO {c j n : Nat} {m} {x kw : Str} {e ek : Expr} {es : List Expr} {ms : Mx (List VD)} {mk : Mx VD} {p pos kp : Pos} (cx : Cxx X C E CX k) (F : MakeKOk X.prog X.w X.K X.mg X.base CX C c x kw j n m) (ha : PXA X C E (e :: es) ms) (hk : PX X C E ek mk) (hj : j + 1 ≤ k := by decide) (hg : Gl X x := by rfl)
    (hdb : (x == ("__debug__" : Str)) = false := by decide) (he : starEach (e :: es) X.env = (false, eval e X.env) :: starEach es X.env := by rfl)
    (hall : (backToKw pos (keywordEach [⟨some kw, ek, kp⟩] X.env)).all (·.1.isSome) = true := by rfl) (hks : (backToKw pos (keywordEach [⟨some kw, ek, kp⟩] X.env)).filterMap (·.1) = [kw] := by rfl)
    (hpl : ((backTo pos (starEach (e :: es) X.env)).any (·.1) || (backToKw pos (keywordEach [⟨some kw, ek, kp⟩] X.env)).any (·.1.isNone)) = false := by rfl) :
    PX X C E (.Call (.Name x p) (e :: es) [⟨some kw, ek, kp⟩] pos) (e_makeKO c n m ms mk) := by
  obtain ⟨⟨f, fd, ps, g, gV, F, hb, hgv, M0⟩, hm⟩ := F
  obtain ⟨ta, pa, sa⟩ := ha
  obtain ⟨tk, pk, sk⟩ := hk
  refine ⟨_, pe_makeN M0 F (cx.hr.mono hj) hg hm hb cx.pas pa (pk_cons pk pk_nil) hall hks hdb he hpl, fun W σ H ρ M Q ok sl p => ?_⟩
  refine sa W σ H ρ M _ ok sl (post_bind p fun vs M1 W1 H1 x l1 ok1 ra p1 => ?_)
  refine sk W1 σ H1 ρ M1 _ ok1 (sl.mono l1.le) (post_bind p1 fun v M2 W2 H2 y l2 ok2 rv p2 => ?_)
  split at p2
  · rename_i hl
    have r2 : RepVA C W2 (x ++ [y]) (vs ++ [v]) := (RepVA.mono l2.le ra).append (.cons rv .nil)
    refine ⟨by rw [ra.length]; exact hl, rfl, fun x' dx hx hdx ne => ?_⟩
    rw [hgv]
    have h := sem_mkI ok2 r2 p2 (Q := Q) (fun W3 H3 M3 y3 s3 ok3 hy p3 => p3 _ _ _ (Step.refl _ _) ok3 ⟨y3, rfl, hy⟩) x' dx hx hdx ne
    obtain ⟨W5, M5, ds, ok5, r5, p5⟩ := h
    exact ⟨W5, M5, ds, ok5, r5, by rw [← r5.length]; simp [ra.length, hl], p5⟩
  · exact p2.elim
end
end G
namespace Hd
open PySem PySem.Spec PyProof.Rows L2
abbrev Fr := PySem.W.Frag
/-- one part holds what the other holds -/
def Sub (A B : Fr) : Prop := ∀ a o, A.lookup a = some o → B.lookup a = some o
structure Ck where
  as : List Addr
  p : Fr → Bool
abbrev FnV := Option (Str × Str × Arguments × FuncBody × Scope × Addr × List (Str × Addr) × Value × Value × Value × Addr)
def fnV (g : Addr → Option Obj) (a : Addr) : FnV := match g a with
  | some ⟨_, _, .func d, _⟩ => some (d.name, d.qualname, d.params, d.body, d.scope, d.globals, d.closure, d.defaults, d.kwdefaults, d.code, d.builtins)
  | _ => none
structure Fd where
  adr : Addr
  nm : Str
  qn : Str
  ps : Arguments
  bd : List Stmt
  sc : Scope
  cl : List (Str × Addr)
  df : Value
  kw : Value
  cd : Value
def Fd.val (d : Fd) : FnV := some (d.nm, d.qn, d.ps, .stmts d.bd, d.sc, mainGlobals, d.cl, d.df, d.kw, d.cd, builtinsNs)
abbrev Al := Bool × List FnV
def obs (cks : List Ck) (fds : List Fd) (g : Addr → Option Obj) : Al := (cks.all fun c => c.p (He.frG g c.as), fds.map fun d => fnV g d.adr)
def adrs (cks : List Ck) (fds : List Fd) : List Addr := cks.flatMap Ck.as ++ fds.map Fd.adr
structure Says (cks : List Ck) (fds : List Fd) (K : Fr) : Prop where
  ck : ∀ (i : Nat) (c : Ck), cks[i]? = some c → ∃ A, Sub A K ∧ c.p A = true
  fd : ∀ (i : Nat) (d : Fd), fds[i]? = some d → ∃ oc od doc pm an ct sl, K.lookup d.adr = some ⟨oc, od, .func { name := d.nm, qualname := d.qn, params := d.ps, body := .stmts d.bd, scope := d.sc, globals := mainGlobals, closure := d.cl, defaults := d.df, kwdefaults := d.kw, doc := doc, pyModule := pm, annotations := an, code := d.cd, closureTuple := ct, builtins := builtinsNs }, sl⟩
  out : ∀ a, a ∉ adrs cks fds → K.lookup a = none
theorem frG_some {g : Addr → Option Obj} {a : Addr} {o : Obj} (h : g a = some o) : ∀ {as : List Addr}, a ∈ as → (He.frG g as).lookup a = some o
  | b :: r, hm => by
    unfold He.frG
    rw [List.filterMap_cons]
    by_cases e : a = b
    · subst e
      rw [h]
      simp [List.lookup]
    · have hr := frG_some h (as := r) ((List.mem_cons.mp hm).resolve_left e)
      unfold He.frG at hr
      cases q : g b with
      | none => exact hr
      | some ob =>
        dsimp only [Option.map]
        rw [List.lookup_cons, beq_eq_false_iff_ne.mpr e]
        exact hr
theorem frG_mem {g : Addr → Option Obj} {a : Addr} {o : Obj} : ∀ {as : List Addr}, (He.frG g as).lookup a = some o → a ∈ as
  | [], h => by cases h
  | b :: r, h => by
    unfold He.frG at h
    rw [List.filterMap_cons] at h
    cases q : g b with
    | none =>
      rw [q] at h
      exact List.mem_cons_of_mem _ (frG_mem (as := r) h)
    | some ob =>
      rw [q] at h
      dsimp only [Option.map] at h
      by_cases e : a = b
      · rw [e]
        exact List.mem_cons_self
      · rw [List.lookup_cons, beq_eq_false_iff_ne.mpr e] at h
        exact List.mem_cons_of_mem _ (frG_mem (as := r) h)
theorem sub_frG {g : Addr → Option Obj} {as bs : List Addr} (h : ∀ a ∈ as, a ∈ bs) : Sub (He.frG g as) (He.frG g bs) := fun a o e => frG_some (He.frG_at _ e) (h a (frG_mem e))
theorem says_of {cks : List Ck} {fds : List Fd} {g : Addr → Option Obj} (h : obs cks fds g = (true, fds.map Fd.val)) : Says cks fds (He.frG g (adrs cks fds)) := by
  have h1 : (cks.all fun c => c.p (He.frG g c.as)) = true := congrArg (fun z : Al => z.1) h
  have h2 : fds.map (fun d => fnV g d.adr) = fds.map Fd.val := congrArg (fun z : Al => z.2) h
  refine ⟨fun i c hc => ?_, fun i d hd => ?_, fun a ha => ?_⟩
  · have hm := List.mem_of_getElem? hc
    exact ⟨_, sub_frG fun a ha => List.mem_append_left _ (List.mem_flatMap.mpr ⟨c, hm, ha⟩), List.all_eq_true.mp h1 c hm⟩
  · have e : (fds.map fun d => fnV g d.adr)[i]? = (fds.map Fd.val)[i]? := by rw [h2]
    rw [List.getElem?_map, List.getElem?_map, hd] at e
    have e : fnV g d.adr = d.val := Option.some.inj e
    have hin : d.adr ∈ adrs cks fds := List.mem_append_right _ (List.mem_map_of_mem (List.mem_of_getElem? hd))
    unfold fnV Fd.val at e
    cases q : g d.adr with
    | none =>
      rw [q] at e
      cases e
    | some o =>
      obtain ⟨oc, od, dt, sl⟩ := o
      rw [q] at e
      cases dt with
      | func fd =>
        obtain ⟨v1, v2, v3, v4, v5, v6, v7, v8, v9, v10, v11, v12, v13, v14, v15⟩ := fd
        simp only [Option.some.injEq, Prod.mk.injEq] at e
        obtain ⟨rfl, rfl, rfl, rfl, rfl, rfl, rfl, rfl, rfl, rfl, rfl⟩ := e
        exact ⟨oc, od, v10, v11, v12, v14, sl, frG_some q hin⟩
      | _ => cases e
  · cases q : (He.frG g (adrs cks fds)).lookup a with
    | none => rfl
    | some o => exact absurd (frG_mem q) ha
def hook (cks : List Ck) (fds : List Fd) : PySem.W.Hook where
  α := Al
  obs := fun s => obs cks fds s.heap.get?
  val := fun _ => (true, fds.map Fd.val)
  says := fun _ h => ∃ K : Fr, K.In h ∧ Says cks fds K
  of := fun _ _ e => ⟨_, He.frG_in, says_of e⟩
  keeps := fun _ _ _ z k => let ⟨K, hK, c⟩ := z; ⟨K, hK.keeps k, c⟩
def ob (cks : List Ck) (fds : List Fd) (s : PySem.W.SharedT) : Al := obs cks fds (HandSHeadRun.getT s)
theorem ob_eq (cks : List Ck) (fds : List Fd) (s : PySem.W.SharedT) : ob cks fds s = (hook cks fds).obs s.abs := by
  have e : HandSHeadRun.getT s = s.abs.heap.get? := funext (HandSHeadRun.getT_eq s)
  unfold ob
  rw [e]
  rfl
section
variable {A K : Fr} (S : Sub A K)
include S
theorem ns_m {d : Addr} {x : Str} {v : Option Value} (h : PySem.W.nsIn A d x = some v) : PySem.W.nsIn K d x = some v := by
  unfold PySem.W.nsIn at h ⊢
  cases q : A.lookup d with
  | none =>
    rw [q] at h
    cases h
  | some o =>
    rw [q] at h
    rw [S _ _ q]
    exact h
theorem own_m {x : Str} {c : Value} {v : Option Value} (h : PySem.W.ownIn A x c = some v) : PySem.W.ownIn K x c = some v := by
  cases c with
  | ref a =>
    unfold PySem.W.ownIn at h ⊢
    dsimp only at h ⊢
    cases q : A.lookup a with
    | none =>
      rw [q] at h
      cases h
    | some o =>
      rw [q] at h
      rw [S _ _ q]
      obtain ⟨_, _, dt, _⟩ := o
      cases dt with
      | cls cd => exact ns_m S h
      | _ => exact h
  | _ => exact h
theorem along_m {x : Str} : ∀ {l : List Value} {v : Option Value}, PySem.W.alongIn A x l = some v → PySem.W.alongIn K x l = some v
  | [], _, h => h
  | c :: r, v, h => by
    unfold PySem.W.alongIn at h ⊢
    cases q : PySem.W.ownIn A x c with
    | none =>
      rw [q] at h
      cases h
    | some u =>
      rw [q] at h
      rw [own_m S q]
      cases u with
      | none => exact along_m (l := r) h
      | some u => exact h
theorem find_m {t : Value} {x : Str} {v : Option Value} (h : PySem.W.findIn A t x = some v) : PySem.W.findIn K t x = some v := by
  cases t with
  | ref a =>
    unfold PySem.W.findIn at h ⊢
    dsimp only at h ⊢
    cases q : A.lookup a with
    | none =>
      rw [q] at h
      cases h
    | some o =>
      rw [q] at h
      rw [S _ _ q]
      obtain ⟨_, _, dt, _⟩ := o
      cases dt with
      | cls cd => exact along_m S h
      | _ => exact h
  | _ => exact h
theorem ty_m {v t : Value} (h : PySem.W.typeIn A v = some t) : PySem.W.typeIn K v = some t := by
  cases v with
  | ref a =>
    unfold PySem.W.typeIn at h ⊢
    dsimp only at h ⊢
    cases q : A.lookup a with
    | none =>
      rw [q] at h
      cases h
    | some o =>
      rw [q] at h
      rw [S _ _ q]
      exact h
  | _ => exact h
theorem sp_m {v : Value} {x : Str} {r : Option Value} (h : PySem.W.specialIn A v x = some r) : PySem.W.specialIn K v x = some r := by
  unfold PySem.W.specialIn at h ⊢
  obtain ⟨t, h1, h2⟩ := Option.bind_eq_some_iff.mp h
  exact Option.bind_eq_some_iff.mpr ⟨t, ty_m S h1, find_m S h2⟩
theorem cls_m {a : Addr} {c : ClassData} (h : PySem.W.clsIn A a = some c) : PySem.W.clsIn K a = some c := by
  unfold PySem.W.clsIn at h ⊢
  cases q : A.lookup a with
  | none =>
    rw [q] at h
    cases h
  | some o =>
    rw [q] at h
    rw [S _ _ q]
    exact h
theorem mro_m {a : Addr} {b : Value} {r : Bool} (h : PySem.W.mroIn A a b = some r) : PySem.W.mroIn K a b = some r := by
  unfold PySem.W.mroIn at h ⊢
  obtain ⟨t, h1, h2⟩ := Option.bind_eq_some_iff.mp h
  exact Option.bind_eq_some_iff.mpr ⟨t, cls_m S h1, h2⟩
theorem subI_m {t b : Value} {r : Bool} (h : PySem.W.subIn A t b = some r) : PySem.W.subIn K t b = some r := by
  cases t with
  | ref a => exact mro_m S h
  | _ => exact h
theorem inst_m {t b : Value} {r : Bool} (h : PySem.W.instIn A t b = some r) : PySem.W.instIn K t b = some r := by
  unfold PySem.W.instIn at h ⊢
  obtain ⟨u, h1, h2⟩ := Option.bind_eq_some_iff.mp h
  exact Option.bind_eq_some_iff.mpr ⟨u, ty_m S h1, subI_m S h2⟩
theorem takes_m {a : Value} {r : Bool} (h : PySem.W.takesIn A a = some r) : PySem.W.takesIn K a = some r := by
  unfold PySem.W.takesIn at h ⊢
  cases q : PySem.W.specialIn A a "__set__" with
  | none =>
    rw [q] at h
    cases h
  | some u =>
    rw [q] at h
    rw [sp_m S q]
    cases u with
    | some u => exact h
    | none =>
      dsimp only at h ⊢
      obtain ⟨u, h1, h2⟩ := Option.map_eq_some_iff.mp h
      exact Option.map_eq_some_iff.mpr ⟨u, sp_m S h1, h2⟩
theorem bind_m {α β : Type} {a b : Option α} {f g : α → Option β} {r : β} (h1 : ∀ x, a = some x → b = some x) (h2 : ∀ x, f x = some r → g x = some r) (h : a.bind f = some r) : b.bind g = some r := by
  obtain ⟨x, e1, e2⟩ := Option.bind_eq_some_iff.mp h
  exact Option.bind_eq_some_iff.mpr ⟨x, h1 x e1, h2 x e2⟩
theorem fcls_m {c mc : Value} {x : Str} {r : PySem.W.CFound} (h : PySem.W.findCls A c mc x = some r) : PySem.W.findCls K c mc x = some r := by
  unfold PySem.W.findCls at h ⊢
  refine bind_m S (fun _ => find_m S) (fun ma h => ?_) h
  refine bind_m S (fun r h => ?_) (fun mg h => ?_) h
  · cases ma with
    | none => exact h
    | some a => exact sp_m S h
  refine bind_m S (fun r h => ?_) (fun data h => ?_) h
  · cases ma <;> cases mg <;> first | exact h | exact takes_m S h
  have key : ∀ {F G : Option Value → Option PySem.W.CFound}, (∀ z, F z = some r → G z = some r) → (PySem.W.findIn A c x).bind F = some r → (PySem.W.findIn K c x).bind G = some r := fun hz h => bind_m S (fun _ => find_m S) hz h
  have in2 : ∀ z : Option Value, (match z with
      | some a => if PySem.Builtin.heldUnderItsOwnName x a = true then none else (PySem.W.typeIn A a).bind fun ta => if PySem.W.bareKinds.contains ta then some (PySem.W.CFound.val a) else (PySem.W.specialIn A a "__get__").bind fun
          | some gg => some (.get gg a .none c)
          | none => if PySem.W.handedIn a then some (.val a) else none
      | none => match ma, mg with
        | some aa, some gg => some (.get gg aa c mc)
        | some a, none => if PySem.W.handedIn a then some (.val a) else none
        | none, _ => none) = some r → (match z with
      | some a => if PySem.Builtin.heldUnderItsOwnName x a = true then none else (PySem.W.typeIn K a).bind fun ta => if PySem.W.bareKinds.contains ta then some (PySem.W.CFound.val a) else (PySem.W.specialIn K a "__get__").bind fun
          | some gg => some (.get gg a .none c)
          | none => if PySem.W.handedIn a then some (.val a) else none
      | none => match ma, mg with
        | some aa, some gg => some (.get gg aa c mc)
        | some a, none => if PySem.W.handedIn a then some (.val a) else none
        | none, _ => none) = some r := by
    intro z h
    cases z with
    | none => exact h
    | some a =>
      dsimp only at h ⊢
      split at h
      · cases h
      · rename_i hn
        rw [if_neg hn]
        refine bind_m S (fun _ => ty_m S) (fun ta h => ?_) h
        split at h
        · rename_i hb
          rw [if_pos hb]
          exact h
        · rename_i hb
          rw [if_neg hb]
          exact bind_m S (fun _ => sp_m S) (fun _ h => h) h
  cases data <;> cases ma <;> cases mg <;> first | exact h | exact key in2 h
theorem rec_m {p : Addr} {T : String} {r : List Value} (h : PySem.W.recIn A p T = some r) : PySem.W.recIn K p T = some r := by
  unfold PySem.W.recIn at h ⊢
  cases q : A.lookup p with
  | none =>
    rw [q] at h
    cases h
  | some o =>
    rw [q] at h
    rw [S _ _ q]
    exact h
theorem dict_m {C : Addr} (h : PySem.W.hasDictIn A C = true) : PySem.W.hasDictIn K C = true := by
  unfold PySem.W.hasDictIn at h ⊢
  obtain ⟨c, h1, h2⟩ := PySem.W.any_some h
  rw [cls_m S h1]
  exact h2
theorem over_m {C : Addr} (h : PySem.W.plainOver A C = true) : PySem.W.plainOver K C = true := by
  unfold PySem.W.plainOver at h ⊢
  obtain ⟨c, h1, h2⟩ := PySem.W.any_some h
  rw [cls_m S h1]
  exact h2
theorem pg_m {C : Addr} {x : Str} (h : PySem.W.plainGet A C x = true) : PySem.W.plainGet K C x = true := by
  unfold PySem.W.plainGet at h ⊢
  rw [Bool.and_eq_true, beq_iff_eq, beq_iff_eq] at h ⊢
  exact ⟨find_m S h.1, find_m S h.2⟩
theorem fn_m {v : Value} (h : PySem.W.isFn A v = true) : PySem.W.isFn K v = true := by
  unfold PySem.W.isFn at h ⊢
  rw [beq_iff_eq] at h ⊢
  exact ty_m S h
theorem keep_m {v : Value} (h : PySem.W.keepIn A v = true) : PySem.W.keepIn K v = true := by
  cases v with
  | ref a =>
    unfold PySem.W.keepIn at h ⊢
    dsimp only at h ⊢
    cases q : A.lookup a with
    | none =>
      rw [q] at h
      cases h
    | some o =>
      rw [q] at h
      rw [S _ _ q]
      obtain ⟨_, _, dt, _⟩ := o
      cases dt with
      | cls cd =>
        dsimp only at h ⊢
        rw [beq_iff_eq] at h ⊢
        exact sp_m S h
      | _ => exact h
  | _ => cases h
theorem code_m {v : Value} {x : Str} (h : PySem.W.codeIn A v x = true) : PySem.W.codeIn K v x = true := by
  cases v with
  | ref a =>
    unfold PySem.W.codeIn at h ⊢
    dsimp only at h ⊢
    cases q : A.lookup a with
    | none =>
      rw [q] at h
      cases h
    | some o =>
      rw [q] at h
      rw [S _ _ q]
      exact h
  | _ => cases h
theorem reads_m {C : Addr} {mc : Value} (h : PySem.W.readsIn A C mc = true) : PySem.W.readsIn K C mc = true := by
  unfold PySem.W.readsIn at h ⊢
  simp only [Bool.and_eq_true, beq_iff_eq] at h ⊢
  obtain ⟨⟨⟨⟨h1, h2⟩, h3⟩, h4⟩, h5⟩ := h
  refine ⟨⟨⟨⟨ns_m S h1, ty_m S h2⟩, find_m S h3⟩, ?_⟩, subI_m S h5⟩
  split at h4
  · rename_i q
    rw [if_pos q]
    obtain ⟨v, e⟩ := Option.isSome_iff_exists.mp h4
    rw [find_m S e]
    rfl
  · rename_i q
    rw [if_neg q]
    rfl
theorem makes_m {C : Addr} (h : PySem.W.makesIn A C = true) : PySem.W.makesIn K C = true := by
  unfold PySem.W.makesIn at h ⊢
  cases q : A.lookup C with
  | none =>
    rw [q] at h
    cases h
  | some o =>
    rw [q] at h
    rw [S _ _ q]
    obtain ⟨_, _, dt, sl⟩ := o
    cases dt with
    | cls cd =>
      simp only [Bool.and_eq_true, beq_iff_eq] at h ⊢
      obtain ⟨⟨h1, h2⟩, h3⟩ := h
      exact ⟨⟨h1, sp_m S h2⟩, inst_m S h3⟩
    | _ => exact h
end
end Hd
namespace Hd
open PySem PySem.Spec PyProof.Rows L2
abbrev Fa (K : Fr) (p : Fr → Bool) : Prop := ∃ A, Sub A K ∧ p A = true
section
variable {K : Fr}
def cNs (d : Addr) (x : Str) (v : Option Value) (A : Fr) : Bool := decide (PySem.W.nsIn A d x = some v)
def cFi (t : Value) (x : Str) (v : Option Value) (A : Fr) : Bool := decide (PySem.W.findIn A t x = some v)
def cSp (t : Value) (x : Str) (v : Option Value) (A : Fr) : Bool := decide (PySem.W.specialIn A t x = some v)
def cSu (t v : Value) (b : Bool) (A : Fr) : Bool := decide (PySem.W.subIn A t v = some b)
def cTy (t v : Value) (A : Fr) : Bool := decide (PySem.W.typeIn A t = some v)
theorem ns {d x v} (h : Fa K (cNs d x v)) : PySem.W.nsIn K d x = some v := let ⟨_, S, e⟩ := h; ns_m S (of_decide_eq_true e)
theorem fi {d x v} (h : Fa K (cFi d x v)) : PySem.W.findIn K d x = some v := let ⟨_, S, e⟩ := h; find_m S (of_decide_eq_true e)
theorem sp {d x v} (h : Fa K (cSp d x v)) : PySem.W.specialIn K d x = some v := let ⟨_, S, e⟩ := h; sp_m S (of_decide_eq_true e)
theorem su {d x v} (h : Fa K (cSu d x v)) : PySem.W.subIn K d x = some v := let ⟨_, S, e⟩ := h; subI_m S (of_decide_eq_true e)
theorem ty {d v} (h : Fa K (cTy d v)) : PySem.W.typeIn K d = some v := let ⟨_, S, e⟩ := h; ty_m S (of_decide_eq_true e)
theorem pg {C x} (h : Fa K fun A => PySem.W.plainGet A C x) : PySem.W.plainGet K C x = true := let ⟨_, S, e⟩ := h; pg_m S e
theorem hd {C} (h : Fa K fun A => PySem.W.hasDictIn A C) : PySem.W.hasDictIn K C = true := let ⟨_, S, e⟩ := h; dict_m S e
theorem po {C} (h : Fa K fun A => PySem.W.plainOver A C) : PySem.W.plainOver K C = true := let ⟨_, S, e⟩ := h; over_m S e
theorem isf {v} (h : Fa K fun A => PySem.W.isFn A v) : PySem.W.isFn K v = true := let ⟨_, S, e⟩ := h; fn_m S e
theorem kp {v} (h : Fa K fun A => PySem.W.keepIn A v) : PySem.W.keepIn K v = true := let ⟨_, S, e⟩ := h; keep_m S e
theorem co {v x} (h : Fa K fun A => PySem.W.codeIn A v x) : PySem.W.codeIn K v x = true := let ⟨_, S, e⟩ := h; code_m S e
theorem rd {C v} (h : Fa K fun A => PySem.W.readsIn A C v) : PySem.W.readsIn K C v = true := let ⟨_, S, e⟩ := h; reads_m S e
theorem mk {C} (h : Fa K fun A => PySem.W.makesIn A C) : PySem.W.makesIn K C = true := let ⟨_, S, e⟩ := h; makes_m S e
/-- a text, a number, its token not told -/
def isS (o : Option (Option Value)) (z : Str) : Bool := match o with
  | some (some (.str yy _)) => decide (yy = z)
  | _ => false
theorem isS_ok {o : Option (Option Value)} {z : Str} (h : isS o z = true) : ∃ t, o = some (some (.str z t)) := by
  unfold isS at h
  split at h
  · exact ⟨_, by rw [of_decide_eq_true h]⟩
  · cases h
def isI (o : Option (Option Value)) (z : Int) : Bool := match o with
  | some (some (.int y _)) => decide (y = z)
  | _ => false
theorem isI_ok {o : Option (Option Value)} {z : Int} (h : isI o z = true) : ∃ t, o = some (some (.int z t)) := by
  unfold isI at h
  split at h
  · exact ⟨_, by rw [of_decide_eq_true h]⟩
  · cases h
theorem nsS {d x z} (h : Fa K fun A => isS (PySem.W.nsIn A d x) z) : ∃ t, PySem.W.nsIn K d x = some (some (.str z t)) := by
  obtain ⟨_, S, e⟩ := h
  obtain ⟨t, e⟩ := isS_ok e
  exact ⟨t, ns_m S e⟩
theorem nsI {d x z} (h : Fa K fun A => isI (PySem.W.nsIn A d x) z) : ∃ t, PySem.W.nsIn K d x = some (some (.int z t)) := by
  obtain ⟨_, S, e⟩ := h
  obtain ⟨t, e⟩ := isI_ok e
  exact ⟨t, ns_m S e⟩
def isC (o : Option PySem.W.CFound) (z : Int) : Bool := match o with
  | some (.val (.int y _)) => decide (y = z)
  | _ => false
theorem cv {c mc : Value} {x : Str} {z : Int} (h : Fa K fun A => isC (PySem.W.findCls A c mc x) z) : ∃ t, PySem.W.findCls K c mc x = some (.val (.int z t)) := by
  obtain ⟨_, S, e⟩ := h
  dsimp only at e
  unfold isC at e
  split at e
  · rename_i q
    have e1 := of_decide_eq_true e
    subst e1
    exact ⟨_, fcls_m S q⟩
  · cases e
def isG (o : Option PySem.W.CFound) (g a b c : Value) : Bool := match o with
  | some (.get g' a' b' c') => decide (g' = g) && (decide (a' = a) && (decide (b' = b) && decide (c' = c)))
  | _ => false
theorem cg {c mc g a b d : Value} {x : Str} (h : Fa K fun A => isG (PySem.W.findCls A c mc x) g a b d) : PySem.W.findCls K c mc x = some (.get g a b d) := by
  obtain ⟨_, S, e⟩ := h
  dsimp only at e
  refine fcls_m S ?_
  unfold isG at e
  split at e
  · rename_i q
    rw [q]
    simp only [Bool.and_eq_true, decide_eq_true_eq] at e
    obtain ⟨rfl, rfl, rfl, rfl⟩ := e
    rfl
  · cases e
def isR (o : Option (List Value)) (f : Addr) : Bool := match o with
  | some (.ref x :: _) => decide (x = f)
  | _ => false
theorem rc {p : Addr} {T : String} {f : Addr} (h : Fa K fun A => isR (PySem.W.recIn A p T) f) : ∃ rs, PySem.W.recIn K p T = some (.ref f :: rs) := by
  obtain ⟨_, S, e⟩ := h
  dsimp only at e
  unfold isR at e
  split at e
  · rename_i q
    have e1 := of_decide_eq_true e
    subst e1
    exact ⟨_, rec_m S q⟩
  · cases e
def isT (o : Option Obj) (P : Addr) : Bool := match o with
  | some ⟨_, _, .fields us, _⟩ => (match (us[11]? : Option Value) with
    | some (.ref x) => decide (x = P)
    | _ => false)
  | _ => false
theorem lt {a P : Addr} (h : Fa K fun A => isT (A.lookup a) P) : ∃ (c : Value) (d : Option Addr) (vs : Array Value) (sl : Array (Option Value)), K.lookup a = some ⟨c, d, .fields vs, sl⟩ ∧ vs[11]? = some (.ref P) := by
  obtain ⟨_, S, e⟩ := h
  dsimp only at e
  unfold isT at e
  split at e
  · rename_i q
    split at e
    · rename_i q2
      have e1 := of_decide_eq_true e
      subst e1
      exact ⟨_, _, _, _, S _ _ q, q2⟩
    · cases e
  · cases e
/-- a tuple of one default -/
def isD (o : Option Obj) (p : Value → Bool) : Bool := match o with
  | some ⟨_, _, .seq ⟨[v]⟩ _, _⟩ => p v
  | _ => false
theorem ld {a : Addr} {p : Value → Bool} (h : Fa K fun A => isD (A.lookup a) p) : ∃ v, p v = true ∧ ∃ c d n sl, K.lookup a = some ⟨c, d, .seq #[v] n, sl⟩ := by
  obtain ⟨_, S, e⟩ := h
  dsimp only at e
  unfold isD at e
  split at e
  · rename_i q
    exact ⟨_, e, _, _, _, _, S _ _ q⟩
  · cases e
def vS (s : Str) : Value → Bool
  | .str x _ => decide (x = s)
  | _ => false
theorem ldS {a : Addr} {s : Str} (h : Fa K fun A => isD (A.lookup a) (vS s)) : ∃ t c d n sl, K.lookup a = some ⟨c, d, .seq #[.str s t] n, sl⟩ := by
  obtain ⟨v, e, c, d, n, sl, q⟩ := ld h
  cases v with
  | str j t =>
    have e1 : j = s := of_decide_eq_true e
    subst e1
    exact ⟨t, c, d, n, sl, q⟩
  | _ => cases e
def isE (o : Option Obj) : Bool := match o with
  | some ⟨.type t, _, .seq ⟨[]⟩ _, _⟩ => decide (t = "tuple")
  | _ => false
theorem le {a : Addr} (h : Fa K fun A => isE (A.lookup a)) : ∃ (d : Option Addr) (n : Nat) (sl : Array (Option Value)), K.lookup a = some ⟨.type "tuple", d, .seq #[] n, sl⟩ := by
  obtain ⟨_, S, e⟩ := h
  dsimp only at e
  unfold isE at e
  split at e
  · rename_i q
    have e1 := of_decide_eq_true e
    subst e1
    exact ⟨_, _, _, S _ _ q⟩
  · cases e
end
end Hd
namespace G
open PySem PySem.Spec PyProof.Rows L2
def top (i : Nat) : Stmt := PySem.Challenge.pw_gapborn_k71_columns_of_births.main.body.getD i (.Pass ⟨0, 0, 0, 0⟩)
abbrev s__law_open : Stmt := top 55
abbrev s__law_draw : Stmt := top 56
abbrev s__law_letters : Stmt := top 59
abbrev s__law_some_comers : Stmt := top 61
abbrev s__law_some_kinds : Stmt := top 60
abbrev s__law_part : Stmt := top 62
abbrev s__law_of : Stmt := top 57
abbrev s__law_string : Stmt := top 63
abbrev s__law_line : Stmt := top 64
abbrev s__law_some_book : Stmt := top 65
abbrev s_is_rising : Stmt := top 24
abbrev s_is_kinds : Stmt := top 25
abbrev s_is_comers : Stmt := top 26
abbrev s_line_of : Stmt := top 39
abbrev s_is_part : Stmt := top 36
abbrev s_is_string : Stmt := top 28
abbrev s_is_word : Stmt := top 30
abbrev s_is_line : Stmt := top 37
abbrev s_Book___init__ : Stmt := inClass (top 35) 1
abbrev s_Book_read : Stmt := inClass (top 35) 13
abbrev s__law_line_text : Stmt := top 66
abbrev s__law_book_text : Stmt := top 67
abbrev s__law_book : Stmt := top 68
abbrev s__law_begin : Stmt := top 75
abbrev s_is_row : Stmt := top 29
abbrev s_is_number : Stmt := top 23
abbrev s_letters_of : Stmt := top 41
abbrev s_Grown___init__ : Stmt := inClass (top 51) 1
abbrev s__law_some_step : Stmt := top 80
abbrev s_is_one : Stmt := top 27
abbrev s_is_gap : Stmt := top 31
abbrev s_takes : Stmt := top 38
abbrev s_Book_line_at : Stmt := inClass (top 35) 3
abbrev s_Book_word : Stmt := inClass (top 35) 4
abbrev s_gap_at : Stmt := top 33
abbrev s_spelled_letters : Stmt := top 42
abbrev s_age_of : Stmt := top 43
abbrev s_birth_home : Stmt := top 44
abbrev s_with_birth : Stmt := top 45
abbrev s_Grown_put_in : Stmt := inClass (top 51) 7
abbrev s_Grown_turn_to : Stmt := inClass (top 51) 6
abbrev s_Grown_put_all : Stmt := inClass (top 51) 9
abbrev s_Grown_put : Stmt := inClass (top 51) 8
abbrev s__law_fits : Stmt := top 69
abbrev s__law_line_at : Stmt := top 70
abbrev s__law_word : Stmt := top 71
abbrev s__law_parts : Stmt := top 72
abbrev s__law_row_gaps : Stmt := top 73
abbrev s__law_home : Stmt := top 74
abbrev s__law_put : Stmt := top 76
abbrev s__law_take_due : Stmt := top 79
abbrev s_lowered : Stmt := top 49
abbrev s_without_birth : Stmt := top 46
abbrev s_Grown_take : Stmt := inClass (top 51) 10
abbrev s__law_less : Stmt := top 77
abbrev s__law_taken : Stmt := top 78
abbrev s__law_try_take : Stmt := top 81
abbrev s_Grown_births : Stmt := inClass (top 51) 14
abbrev s_columns_o : Stmt := top 53
abbrev s__law_same : Stmt := top 58
abbrev s_columns : Stmt := top 53
abbrev s_law : Stmt := top 82
abbrev rowR : PySem.W.OpenRow := PySem.W.OpenLaw.row PySem.Challenge.rw_gapborn_k71_columns_of_births
abbrev viewR : Program := PySem.W.view rowR.prog [82]
def looseR : List PySem.Str := (["_wall", "__name__", "GapError", "InvalidKinds", "InvalidComers", "InvalidLine", "InvalidGap", "InvalidComer", "InvalidRow", "InvalidPlace", "InvalidStep", "InvalidLimit", "InvalidText", "NotBorn", "NotFree", "Full", "Missing", "UnknownLetter", "__name__", "MOST_ROW", "MOST_WORD", "LOWER", "UPPER", "is_number", "is_rising", "is_kinds", "is_comers", "is_one", "is_string", "is_row"] : List PySem.Str) ++ (["is_word", "is_gap", "parts_of", "gap_at", "__name__", "Book", "is_part", "is_line", "takes", "line_of", "__name__", "letters_of", "spelled_letters", "age_of", "birth_home", "with_birth", "without_birth", "inside_of", "plain_steps", "lowered", "__name__", "Grown", "__name__", "columns", "__name__", "_law_open", "_law_draw", "_law_of", "_law_same", "_law_letters"] : List PySem.Str) ++ (["_law_some_kinds", "_law_some_comers", "_law_part", "_law_string", "_law_line", "_law_some_book", "_law_line_text", "_law_book_text", "_law_book", "_law_fits", "_law_line_at", "_law_word", "_law_parts", "_law_row_gaps", "_law_home", "_law_begin", "_law_put", "_law_less", "_law_taken", "_law_take_due", "_law_some_step", "_law_try_take"] : List PySem.Str)
def cks : List Hd.Ck := [
  ⟨[3], Hd.cNs mainGlobals "Book" (some (.ref 514))⟩,
  ⟨[514, 513], fun A => PySem.W.plainGet A 514 Str.empty⟩,
  ⟨[514], fun A => PySem.W.hasDictIn A 514⟩,
  ⟨[514], fun A => PySem.W.plainOver A 514⟩,
  ⟨[514, 513], Hd.cFi (.ref 514) "__setattr__" (some (.builtin "object.__setattr__"))⟩,
  ⟨[514, 513], Hd.cFi (.ref 514) "kinds" none⟩,
  ⟨[514, 513], Hd.cFi (.ref 514) "comers" none⟩,
  ⟨[514, 513], Hd.cFi (.ref 514) "own_lines" none⟩,
  ⟨[2, 514], fun A => PySem.W.readsIn A 514 (.type "type")⟩,
  ⟨[514], Hd.cSp (.ref 514) "__getattribute__" (some (.builtin "type.__getattribute__"))⟩,
  ⟨[514, 513], fun A => Hd.isC (PySem.W.findCls A (.ref 514) (.type "type") "MOST") 8⟩,
  ⟨[514], fun A => PySem.W.makesIn A 514⟩,
  ⟨[514], fun A => PySem.W.keepIn A (.ref 514)⟩,
  ⟨[3], Hd.cNs mainGlobals "Grown" (some (.ref 774))⟩,
  ⟨[774, 773], fun A => PySem.W.plainGet A 774 Str.empty⟩,
  ⟨[774], fun A => PySem.W.hasDictIn A 774⟩,
  ⟨[774], fun A => PySem.W.plainOver A 774⟩,
  ⟨[774, 773], Hd.cFi (.ref 774) "__setattr__" (some (.builtin "object.__setattr__"))⟩,
  ⟨[774, 773], Hd.cFi (.ref 774) "book" none⟩,
  ⟨[774, 773], Hd.cFi (.ref 774) "start" none⟩,
  ⟨[774, 773], Hd.cFi (.ref 774) "busy" none⟩,
  ⟨[774, 773], Hd.cFi (.ref 774) "own_limit" none⟩,
  ⟨[774, 773], Hd.cFi (.ref 774) "letters" none⟩,
  ⟨[774, 773], Hd.cFi (.ref 774) "own_births" none⟩,
  ⟨[774, 773], Hd.cFi (.ref 774) "past" none⟩,
  ⟨[774, 773], Hd.cFi (.ref 774) "ahead" none⟩,
  ⟨[2, 774], fun A => PySem.W.readsIn A 774 (.type "type")⟩,
  ⟨[774], Hd.cSp (.ref 774) "__getattribute__" (some (.builtin "type.__getattribute__"))⟩,
  ⟨[774, 773], fun A => Hd.isC (PySem.W.findCls A (.ref 774) (.type "type") "MOST") 99⟩,
  ⟨[774], fun A => PySem.W.makesIn A 774⟩,
  ⟨[774], fun A => PySem.W.keepIn A (.ref 774)⟩,
  ⟨[3], Hd.cNs mainGlobals "_law_open" (some (.ref 792))⟩,
  ⟨[791], fun A => PySem.W.codeIn A (.ref 791) "_law_open"⟩,
  ⟨[792], fun A => PySem.W.keepIn A (.ref 792)⟩,
  ⟨[3], Hd.cNs mainGlobals "_law_draw" (some (.ref 799))⟩,
  ⟨[798], fun A => PySem.W.codeIn A (.ref 798) "_law_draw"⟩,
  ⟨[799], fun A => PySem.W.keepIn A (.ref 799)⟩,
  ⟨[3], Hd.cNs mainGlobals "_law_letters" (some (.ref 818))⟩,
  ⟨[817], fun A => PySem.W.codeIn A (.ref 817) "_law_letters"⟩,
  ⟨[818], fun A => PySem.W.keepIn A (.ref 818)⟩,
  ⟨[3], Hd.cNs mainGlobals "_law_some_comers" (some (.ref 832))⟩,
  ⟨[831], fun A => PySem.W.codeIn A (.ref 831) "_law_some_comers"⟩,
  ⟨[832], fun A => PySem.W.keepIn A (.ref 832)⟩,
  ⟨[3], Hd.cNs mainGlobals "_law_some_kinds" (some (.ref 825))⟩,
  ⟨[824], fun A => PySem.W.codeIn A (.ref 824) "_law_some_kinds"⟩,
  ⟨[825], fun A => PySem.W.keepIn A (.ref 825)⟩,
  ⟨[3], Hd.cNs mainGlobals "_law_part" (some (.ref 837))⟩,
  ⟨[836], fun A => PySem.W.codeIn A (.ref 836) "_law_part"⟩,
  ⟨[837], fun A => PySem.W.keepIn A (.ref 837)⟩,
  ⟨[3], Hd.cNs mainGlobals "_law_of" (some (.ref 806))⟩,
  ⟨[805], fun A => PySem.W.codeIn A (.ref 805) "_law_of"⟩,
  ⟨[806], fun A => PySem.W.keepIn A (.ref 806)⟩,
  ⟨[3], Hd.cNs mainGlobals "_law_string" (some (.ref 842))⟩,
  ⟨[841], fun A => PySem.W.codeIn A (.ref 841) "_law_string"⟩,
  ⟨[842], fun A => PySem.W.keepIn A (.ref 842)⟩,
  ⟨[3], Hd.cNs mainGlobals "_law_line" (some (.ref 849))⟩,
  ⟨[848], fun A => PySem.W.codeIn A (.ref 848) "_law_line"⟩,
  ⟨[849], fun A => PySem.W.keepIn A (.ref 849)⟩,
  ⟨[3], Hd.cNs mainGlobals "_law_some_book" (some (.ref 854))⟩,
  ⟨[853], fun A => PySem.W.codeIn A (.ref 853) "_law_some_book"⟩,
  ⟨[854], fun A => PySem.W.keepIn A (.ref 854)⟩,
  ⟨[3], Hd.cNs mainGlobals "is_rising" (some (.ref 353))⟩,
  ⟨[352], fun A => PySem.W.codeIn A (.ref 352) "is_rising"⟩,
  ⟨[353], fun A => PySem.W.keepIn A (.ref 353)⟩,
  ⟨[3], Hd.cNs mainGlobals "is_kinds" (some (.ref 360))⟩,
  ⟨[359], fun A => PySem.W.codeIn A (.ref 359) "is_kinds"⟩,
  ⟨[360], fun A => PySem.W.keepIn A (.ref 360)⟩,
  ⟨[3], Hd.cNs mainGlobals "is_comers" (some (.ref 367))⟩,
  ⟨[366], fun A => PySem.W.codeIn A (.ref 366) "is_comers"⟩,
  ⟨[367], fun A => PySem.W.keepIn A (.ref 367)⟩,
  ⟨[3], Hd.cNs mainGlobals "line_of" (some (.ref 546))⟩,
  ⟨[545], fun A => PySem.W.codeIn A (.ref 545) "line_of"⟩,
  ⟨[546], fun A => PySem.W.keepIn A (.ref 546)⟩,
  ⟨[3], Hd.cNs mainGlobals "is_part" (some (.ref 525))⟩,
  ⟨[524], fun A => PySem.W.codeIn A (.ref 524) "is_part"⟩,
  ⟨[525], fun A => PySem.W.keepIn A (.ref 525)⟩,
  ⟨[3], Hd.cNs mainGlobals "is_string" (some (.ref 379))⟩,
  ⟨[378], fun A => PySem.W.codeIn A (.ref 378) "is_string"⟩,
  ⟨[379], fun A => PySem.W.keepIn A (.ref 379)⟩,
  ⟨[3], Hd.cNs mainGlobals "is_word" (some (.ref 393))⟩,
  ⟨[392], fun A => PySem.W.codeIn A (.ref 392) "is_word"⟩,
  ⟨[393], fun A => PySem.W.keepIn A (.ref 393)⟩,
  ⟨[3], Hd.cNs mainGlobals "is_line" (some (.ref 532))⟩,
  ⟨[531], fun A => PySem.W.codeIn A (.ref 531) "is_line"⟩,
  ⟨[532], fun A => PySem.W.keepIn A (.ref 532)⟩,
  ⟨[514, 513], Hd.cFi (.ref 514) "__init__" (some (.ref 426))⟩,
  ⟨[426], fun A => PySem.W.isFn A (.ref 426)⟩,
  ⟨[425], fun A => PySem.W.codeIn A (.ref 425) "Book.__init__"⟩,
  ⟨[426], fun A => PySem.W.keepIn A (.ref 426)⟩,
  ⟨[514, 513, 510], fun A => Hd.isG (PySem.W.findCls A (.ref 514) (.type "type") "read") (.builtin "staticmethod.__get__") (.ref 510) .none (.ref 514)⟩,
  ⟨[510], fun A => Hd.isR (PySem.W.recIn A 510 "staticmethod") 508⟩,
  ⟨[507], fun A => PySem.W.codeIn A (.ref 507) "Book.read"⟩,
  ⟨[508], fun A => PySem.W.keepIn A (.ref 508)⟩,
  ⟨[3], Hd.cNs mainGlobals "_law_line_text" (some (.ref 861))⟩,
  ⟨[860], fun A => PySem.W.codeIn A (.ref 860) "_law_line_text"⟩,
  ⟨[861], fun A => PySem.W.keepIn A (.ref 861)⟩,
  ⟨[3], Hd.cNs mainGlobals "_law_book_text" (some (.ref 866))⟩,
  ⟨[865], fun A => PySem.W.codeIn A (.ref 865) "_law_book_text"⟩,
  ⟨[866], fun A => PySem.W.keepIn A (.ref 866)⟩,
  ⟨[3], Hd.cNs mainGlobals "_law_book" (some (.ref 873))⟩,
  ⟨[872], fun A => PySem.W.codeIn A (.ref 872) "_law_book"⟩,
  ⟨[873], fun A => PySem.W.keepIn A (.ref 873)⟩,
  ⟨[3], Hd.cNs mainGlobals "_law_begin" (some (.ref 918))⟩,
  ⟨[917], fun A => PySem.W.codeIn A (.ref 917) "_law_begin"⟩,
  ⟨[918], fun A => PySem.W.keepIn A (.ref 918)⟩,
  ⟨[3], Hd.cNs mainGlobals "is_row" (some (.ref 386))⟩,
  ⟨[385], fun A => PySem.W.codeIn A (.ref 385) "is_row"⟩,
  ⟨[386], fun A => PySem.W.keepIn A (.ref 386)⟩,
  ⟨[3], Hd.cNs mainGlobals "is_number" (some (.ref 348))⟩,
  ⟨[347], fun A => PySem.W.codeIn A (.ref 347) "is_number"⟩,
  ⟨[348], fun A => PySem.W.keepIn A (.ref 348)⟩,
  ⟨[3], Hd.cNs mainGlobals "letters_of" (some (.ref 551))⟩,
  ⟨[550], fun A => PySem.W.codeIn A (.ref 550) "letters_of"⟩,
  ⟨[551], fun A => PySem.W.keepIn A (.ref 551)⟩,
  ⟨[774, 773], Hd.cFi (.ref 774) "__init__" (some (.ref 615))⟩,
  ⟨[615], fun A => PySem.W.isFn A (.ref 615)⟩,
  ⟨[608], fun A => Hd.isI (PySem.W.nsIn A 608 "limit") 60⟩,
  ⟨[607], fun A => Hd.isD (A.lookup 607) (Hd.vS "")⟩,
  ⟨[614], fun A => PySem.W.codeIn A (.ref 614) "Grown.__init__"⟩,
  ⟨[615], fun A => PySem.W.keepIn A (.ref 615)⟩,
  ⟨[3], Hd.cNs mainGlobals "_law_some_step" (some (.ref 947))⟩,
  ⟨[946], fun A => PySem.W.codeIn A (.ref 946) "_law_some_step"⟩,
  ⟨[947], fun A => PySem.W.keepIn A (.ref 947)⟩,
  ⟨[3], Hd.cNs mainGlobals "is_one" (some (.ref 374))⟩,
  ⟨[373], fun A => PySem.W.codeIn A (.ref 373) "is_one"⟩,
  ⟨[374], fun A => PySem.W.keepIn A (.ref 374)⟩,
  ⟨[3], Hd.cNs mainGlobals "is_gap" (some (.ref 400))⟩,
  ⟨[399], fun A => PySem.W.codeIn A (.ref 399) "is_gap"⟩,
  ⟨[400], fun A => PySem.W.keepIn A (.ref 400)⟩,
  ⟨[3], Hd.cNs mainGlobals "takes" (some (.ref 539))⟩,
  ⟨[538], fun A => PySem.W.codeIn A (.ref 538) "takes"⟩,
  ⟨[539], fun A => PySem.W.keepIn A (.ref 539)⟩,
  ⟨[514, 513], Hd.cFi (.ref 514) "line_at" (some (.ref 440))⟩,
  ⟨[440], fun A => PySem.W.isFn A (.ref 440)⟩,
  ⟨[439], fun A => PySem.W.codeIn A (.ref 439) "Book.line_at"⟩,
  ⟨[440], fun A => PySem.W.keepIn A (.ref 440)⟩,
  ⟨[514, 513], Hd.cFi (.ref 514) "word" (some (.ref 447))⟩,
  ⟨[447], fun A => PySem.W.isFn A (.ref 447)⟩,
  ⟨[446], fun A => PySem.W.codeIn A (.ref 446) "Book.word"⟩,
  ⟨[447], fun A => PySem.W.keepIn A (.ref 447)⟩,
  ⟨[3], Hd.cNs mainGlobals "gap_at" (some (.ref 412))⟩,
  ⟨[411], fun A => PySem.W.codeIn A (.ref 411) "gap_at"⟩,
  ⟨[412], fun A => PySem.W.keepIn A (.ref 412)⟩,
  ⟨[3], Hd.cNs mainGlobals "spelled_letters" (some (.ref 556))⟩,
  ⟨[555], fun A => PySem.W.codeIn A (.ref 555) "spelled_letters"⟩,
  ⟨[556], fun A => PySem.W.keepIn A (.ref 556)⟩,
  ⟨[3], Hd.cNs mainGlobals "age_of" (some (.ref 563))⟩,
  ⟨[562], fun A => PySem.W.codeIn A (.ref 562) "age_of"⟩,
  ⟨[563], fun A => PySem.W.keepIn A (.ref 563)⟩,
  ⟨[3], Hd.cNs mainGlobals "birth_home" (some (.ref 570))⟩,
  ⟨[569], fun A => PySem.W.codeIn A (.ref 569) "birth_home"⟩,
  ⟨[570], fun A => PySem.W.keepIn A (.ref 570)⟩,
  ⟨[3], Hd.cNs mainGlobals "with_birth" (some (.ref 575))⟩,
  ⟨[574], fun A => PySem.W.codeIn A (.ref 574) "with_birth"⟩,
  ⟨[575], fun A => PySem.W.keepIn A (.ref 575)⟩,
  ⟨[774, 773], Hd.cFi (.ref 774) "put_in" (some (.ref 661))⟩,
  ⟨[661], fun A => PySem.W.isFn A (.ref 661)⟩,
  ⟨[660], fun A => PySem.W.codeIn A (.ref 660) "Grown.put_in"⟩,
  ⟨[661], fun A => PySem.W.keepIn A (.ref 661)⟩,
  ⟨[774, 773], Hd.cFi (.ref 774) "turn_to" (some (.ref 654))⟩,
  ⟨[654], fun A => PySem.W.isFn A (.ref 654)⟩,
  ⟨[653], fun A => PySem.W.codeIn A (.ref 653) "Grown.turn_to"⟩,
  ⟨[654], fun A => PySem.W.keepIn A (.ref 654)⟩,
  ⟨[774, 773], Hd.cFi (.ref 774) "put_all" (some (.ref 675))⟩,
  ⟨[675], fun A => PySem.W.isFn A (.ref 675)⟩,
  ⟨[674], fun A => PySem.W.codeIn A (.ref 674) "Grown.put_all"⟩,
  ⟨[675], fun A => PySem.W.keepIn A (.ref 675)⟩,
  ⟨[774, 773], Hd.cFi (.ref 774) "put" (some (.ref 668))⟩,
  ⟨[668], fun A => PySem.W.isFn A (.ref 668)⟩,
  ⟨[667], fun A => PySem.W.codeIn A (.ref 667) "Grown.put"⟩,
  ⟨[668], fun A => PySem.W.keepIn A (.ref 668)⟩,
  ⟨[3], Hd.cNs mainGlobals "_law_fits" (some (.ref 880))⟩,
  ⟨[879], fun A => PySem.W.codeIn A (.ref 879) "_law_fits"⟩,
  ⟨[880], fun A => PySem.W.keepIn A (.ref 880)⟩,
  ⟨[3], Hd.cNs mainGlobals "_law_line_at" (some (.ref 887))⟩,
  ⟨[886], fun A => PySem.W.codeIn A (.ref 886) "_law_line_at"⟩,
  ⟨[887], fun A => PySem.W.keepIn A (.ref 887)⟩,
  ⟨[3], Hd.cNs mainGlobals "_law_word" (some (.ref 894))⟩,
  ⟨[893], fun A => PySem.W.codeIn A (.ref 893) "_law_word"⟩,
  ⟨[894], fun A => PySem.W.keepIn A (.ref 894)⟩,
  ⟨[3], Hd.cNs mainGlobals "_law_parts" (some (.ref 899))⟩,
  ⟨[898], fun A => PySem.W.codeIn A (.ref 898) "_law_parts"⟩,
  ⟨[899], fun A => PySem.W.keepIn A (.ref 899)⟩,
  ⟨[3], Hd.cNs mainGlobals "_law_row_gaps" (some (.ref 906))⟩,
  ⟨[905], fun A => PySem.W.codeIn A (.ref 905) "_law_row_gaps"⟩,
  ⟨[906], fun A => PySem.W.keepIn A (.ref 906)⟩,
  ⟨[3], Hd.cNs mainGlobals "_law_home" (some (.ref 913))⟩,
  ⟨[912], fun A => PySem.W.codeIn A (.ref 912) "_law_home"⟩,
  ⟨[913], fun A => PySem.W.keepIn A (.ref 913)⟩,
  ⟨[3], Hd.cNs mainGlobals "_law_put" (some (.ref 923))⟩,
  ⟨[922], fun A => PySem.W.codeIn A (.ref 922) "_law_put"⟩,
  ⟨[923], fun A => PySem.W.keepIn A (.ref 923)⟩,
  ⟨[3], Hd.cNs mainGlobals "_law_take_due" (some (.ref 940))⟩,
  ⟨[939], fun A => PySem.W.codeIn A (.ref 939) "_law_take_due"⟩,
  ⟨[940], fun A => PySem.W.keepIn A (.ref 940)⟩,
  ⟨[3], Hd.cNs mainGlobals "lowered" (some (.ref 599))⟩,
  ⟨[598], fun A => PySem.W.codeIn A (.ref 598) "lowered"⟩,
  ⟨[599], fun A => PySem.W.keepIn A (.ref 599)⟩,
  ⟨[3], Hd.cNs mainGlobals "without_birth" (some (.ref 580))⟩,
  ⟨[579], fun A => PySem.W.codeIn A (.ref 579) "without_birth"⟩,
  ⟨[580], fun A => PySem.W.keepIn A (.ref 580)⟩,
  ⟨[774, 773], Hd.cFi (.ref 774) "take" (some (.ref 680))⟩,
  ⟨[680], fun A => PySem.W.isFn A (.ref 680)⟩,
  ⟨[679], fun A => PySem.W.codeIn A (.ref 679) "Grown.take"⟩,
  ⟨[680], fun A => PySem.W.keepIn A (.ref 680)⟩,
  ⟨[3], Hd.cNs mainGlobals "_law_less" (some (.ref 930))⟩,
  ⟨[929], fun A => PySem.W.codeIn A (.ref 929) "_law_less"⟩,
  ⟨[930], fun A => PySem.W.keepIn A (.ref 930)⟩,
  ⟨[3], Hd.cNs mainGlobals "_law_taken" (some (.ref 935))⟩,
  ⟨[934], fun A => PySem.W.codeIn A (.ref 934) "_law_taken"⟩,
  ⟨[935], fun A => PySem.W.keepIn A (.ref 935)⟩,
  ⟨[3], Hd.cNs mainGlobals "_law_try_take" (some (.ref 954))⟩,
  ⟨[953], fun A => PySem.W.codeIn A (.ref 953) "_law_try_take"⟩,
  ⟨[954], fun A => PySem.W.keepIn A (.ref 954)⟩,
  ⟨[774, 773], Hd.cFi (.ref 774) "births" (some (.ref 708))⟩,
  ⟨[708], fun A => PySem.W.isFn A (.ref 708)⟩,
  ⟨[707], fun A => PySem.W.codeIn A (.ref 707) "Grown.births"⟩,
  ⟨[708], fun A => PySem.W.keepIn A (.ref 708)⟩,
  ⟨[3], Hd.cNs mainGlobals "_law_same" (some (.ref 811))⟩,
  ⟨[810], fun A => PySem.W.codeIn A (.ref 810) "_law_same"⟩,
  ⟨[811], fun A => PySem.W.keepIn A (.ref 811)⟩,
  ⟨[3], Hd.cNs mainGlobals "columns" (some (.ref 785))⟩,
  ⟨[784], fun A => PySem.W.codeIn A (.ref 784) "columns"⟩,
  ⟨[785], fun A => PySem.W.keepIn A (.ref 785)⟩,
  ⟨[3], Hd.cNs mainGlobals "law" (some (.ref 961))⟩,
  ⟨[960], fun A => PySem.W.codeIn A (.ref 960) "law"⟩,
  ⟨[961], fun A => PySem.W.keepIn A (.ref 961)⟩,
  ⟨[3], Hd.cNs mainGlobals "int" none⟩,
  ⟨[3], Hd.cNs mainGlobals "list" none⟩,
  ⟨[3], Hd.cNs mainGlobals "len" none⟩,
  ⟨[3], Hd.cNs mainGlobals "abs" none⟩,
  ⟨[3], Hd.cNs mainGlobals "range" none⟩,
  ⟨[3], Hd.cNs mainGlobals "isinstance" none⟩,
  ⟨[3], Hd.cNs mainGlobals "str" none⟩,
  ⟨[3], Hd.cNs mainGlobals "all" none⟩,
  ⟨[3], Hd.cNs mainGlobals "sorted" none⟩,
  ⟨[3], Hd.cNs mainGlobals "set" none⟩,
  ⟨[3], Hd.cNs mainGlobals "tuple" none⟩,
  ⟨[3], Hd.cNs mainGlobals "enumerate" none⟩,
  ⟨[3], Hd.cNs mainGlobals "bool" none⟩,
  ⟨[3], Hd.cNs mainGlobals "max" none⟩,
  ⟨[3], Hd.cNs mainGlobals "zip" none⟩,
  ⟨[3], fun A => Hd.isS (PySem.W.nsIn A mainGlobals "LOWER") "abcdefghijklmnopqrstuvwxyz"⟩,
  ⟨[3], fun A => Hd.isS (PySem.W.nsIn A mainGlobals "UPPER") "ABCDEFGHIJKLMNOPQRSTUVWXYZ"⟩,
  ⟨[3], fun A => Hd.isI (PySem.W.nsIn A mainGlobals "MOST_WORD") 3⟩,
  ⟨[3], fun A => Hd.isI (PySem.W.nsIn A mainGlobals "MOST_ROW") 16⟩]
def fds : List Hd.Fd := [
  ⟨792, "_law_open", "_law_open", defArgs s__law_open, defBody s__law_open, defScope s__law_open, [], .none, .none, (.ref 791)⟩,
  ⟨799, "_law_draw", "_law_draw", defArgs s__law_draw, defBody s__law_draw, defScope s__law_draw, [], .none, .none, (.ref 798)⟩,
  ⟨818, "_law_letters", "_law_letters", defArgs s__law_letters, defBody s__law_letters, defScope s__law_letters, [], .none, .none, (.ref 817)⟩,
  ⟨832, "_law_some_comers", "_law_some_comers", defArgs s__law_some_comers, defBody s__law_some_comers, defScope s__law_some_comers, [], .none, .none, (.ref 831)⟩,
  ⟨825, "_law_some_kinds", "_law_some_kinds", defArgs s__law_some_kinds, defBody s__law_some_kinds, defScope s__law_some_kinds, [], .none, .none, (.ref 824)⟩,
  ⟨837, "_law_part", "_law_part", defArgs s__law_part, defBody s__law_part, defScope s__law_part, [], .none, .none, (.ref 836)⟩,
  ⟨806, "_law_of", "_law_of", defArgs s__law_of, defBody s__law_of, defScope s__law_of, [], .none, .none, (.ref 805)⟩,
  ⟨842, "_law_string", "_law_string", defArgs s__law_string, defBody s__law_string, defScope s__law_string, [], .none, .none, (.ref 841)⟩,
  ⟨849, "_law_line", "_law_line", defArgs s__law_line, defBody s__law_line, defScope s__law_line, [], .none, .none, (.ref 848)⟩,
  ⟨854, "_law_some_book", "_law_some_book", defArgs s__law_some_book, defBody s__law_some_book, defScope s__law_some_book, [], .none, .none, (.ref 853)⟩,
  ⟨353, "is_rising", "is_rising", defArgs s_is_rising, defBody s_is_rising, defScope s_is_rising, [], .none, .none, (.ref 352)⟩,
  ⟨360, "is_kinds", "is_kinds", defArgs s_is_kinds, defBody s_is_kinds, defScope s_is_kinds, [], .none, .none, (.ref 359)⟩,
  ⟨367, "is_comers", "is_comers", defArgs s_is_comers, defBody s_is_comers, defScope s_is_comers, [], .none, .none, (.ref 366)⟩,
  ⟨546, "line_of", "line_of", defArgs s_line_of, defBody s_line_of, defScope s_line_of, [], .none, .none, (.ref 545)⟩,
  ⟨525, "is_part", "is_part", defArgs s_is_part, defBody s_is_part, defScope s_is_part, [], .none, .none, (.ref 524)⟩,
  ⟨379, "is_string", "is_string", defArgs s_is_string, defBody s_is_string, defScope s_is_string, [], .none, .none, (.ref 378)⟩,
  ⟨393, "is_word", "is_word", defArgs s_is_word, defBody s_is_word, defScope s_is_word, [], .none, .none, (.ref 392)⟩,
  ⟨532, "is_line", "is_line", defArgs s_is_line, defBody s_is_line, defScope s_is_line, [], .none, .none, (.ref 531)⟩,
  ⟨426, "__init__", "Book.__init__", defArgs s_Book___init__, defBody s_Book___init__, defScope s_Book___init__, [], .none, .none, (.ref 425)⟩,
  ⟨508, "read", "Book.read", defArgs s_Book_read, defBody s_Book_read, defScope s_Book_read, [], .none, .none, (.ref 507)⟩,
  ⟨861, "_law_line_text", "_law_line_text", defArgs s__law_line_text, defBody s__law_line_text, defScope s__law_line_text, [], .none, .none, (.ref 860)⟩,
  ⟨866, "_law_book_text", "_law_book_text", defArgs s__law_book_text, defBody s__law_book_text, defScope s__law_book_text, [], .none, .none, (.ref 865)⟩,
  ⟨873, "_law_book", "_law_book", defArgs s__law_book, defBody s__law_book, defScope s__law_book, [], .none, .none, (.ref 872)⟩,
  ⟨918, "_law_begin", "_law_begin", defArgs s__law_begin, defBody s__law_begin, defScope s__law_begin, [], .none, .none, (.ref 917)⟩,
  ⟨386, "is_row", "is_row", defArgs s_is_row, defBody s_is_row, defScope s_is_row, [], .none, .none, (.ref 385)⟩,
  ⟨348, "is_number", "is_number", defArgs s_is_number, defBody s_is_number, defScope s_is_number, [], .none, .none, (.ref 347)⟩,
  ⟨551, "letters_of", "letters_of", defArgs s_letters_of, defBody s_letters_of, defScope s_letters_of, [], .none, .none, (.ref 550)⟩,
  ⟨615, "__init__", "Grown.__init__", defArgs s_Grown___init__, defBody s_Grown___init__, defScope s_Grown___init__, [], (.ref 607), (.ref 608), (.ref 614)⟩,
  ⟨947, "_law_some_step", "_law_some_step", defArgs s__law_some_step, defBody s__law_some_step, defScope s__law_some_step, [], .none, .none, (.ref 946)⟩,
  ⟨374, "is_one", "is_one", defArgs s_is_one, defBody s_is_one, defScope s_is_one, [], .none, .none, (.ref 373)⟩,
  ⟨400, "is_gap", "is_gap", defArgs s_is_gap, defBody s_is_gap, defScope s_is_gap, [], .none, .none, (.ref 399)⟩,
  ⟨539, "takes", "takes", defArgs s_takes, defBody s_takes, defScope s_takes, [], .none, .none, (.ref 538)⟩,
  ⟨440, "line_at", "Book.line_at", defArgs s_Book_line_at, defBody s_Book_line_at, defScope s_Book_line_at, [], .none, .none, (.ref 439)⟩,
  ⟨447, "word", "Book.word", defArgs s_Book_word, defBody s_Book_word, defScope s_Book_word, [], .none, .none, (.ref 446)⟩,
  ⟨412, "gap_at", "gap_at", defArgs s_gap_at, defBody s_gap_at, defScope s_gap_at, [], .none, .none, (.ref 411)⟩,
  ⟨556, "spelled_letters", "spelled_letters", defArgs s_spelled_letters, defBody s_spelled_letters, defScope s_spelled_letters, [], .none, .none, (.ref 555)⟩,
  ⟨563, "age_of", "age_of", defArgs s_age_of, defBody s_age_of, defScope s_age_of, [], .none, .none, (.ref 562)⟩,
  ⟨570, "birth_home", "birth_home", defArgs s_birth_home, defBody s_birth_home, defScope s_birth_home, [], .none, .none, (.ref 569)⟩,
  ⟨575, "with_birth", "with_birth", defArgs s_with_birth, defBody s_with_birth, defScope s_with_birth, [], .none, .none, (.ref 574)⟩,
  ⟨661, "put_in", "Grown.put_in", defArgs s_Grown_put_in, defBody s_Grown_put_in, defScope s_Grown_put_in, [], .none, .none, (.ref 660)⟩,
  ⟨654, "turn_to", "Grown.turn_to", defArgs s_Grown_turn_to, defBody s_Grown_turn_to, defScope s_Grown_turn_to, [], .none, .none, (.ref 653)⟩,
  ⟨675, "put_all", "Grown.put_all", defArgs s_Grown_put_all, defBody s_Grown_put_all, defScope s_Grown_put_all, [], .none, .none, (.ref 674)⟩,
  ⟨668, "put", "Grown.put", defArgs s_Grown_put, defBody s_Grown_put, defScope s_Grown_put, [], .none, .none, (.ref 667)⟩,
  ⟨880, "_law_fits", "_law_fits", defArgs s__law_fits, defBody s__law_fits, defScope s__law_fits, [], .none, .none, (.ref 879)⟩,
  ⟨887, "_law_line_at", "_law_line_at", defArgs s__law_line_at, defBody s__law_line_at, defScope s__law_line_at, [], .none, .none, (.ref 886)⟩,
  ⟨894, "_law_word", "_law_word", defArgs s__law_word, defBody s__law_word, defScope s__law_word, [], .none, .none, (.ref 893)⟩,
  ⟨899, "_law_parts", "_law_parts", defArgs s__law_parts, defBody s__law_parts, defScope s__law_parts, [], .none, .none, (.ref 898)⟩,
  ⟨906, "_law_row_gaps", "_law_row_gaps", defArgs s__law_row_gaps, defBody s__law_row_gaps, defScope s__law_row_gaps, [], .none, .none, (.ref 905)⟩,
  ⟨913, "_law_home", "_law_home", defArgs s__law_home, defBody s__law_home, defScope s__law_home, [], .none, .none, (.ref 912)⟩,
  ⟨923, "_law_put", "_law_put", defArgs s__law_put, defBody s__law_put, defScope s__law_put, [], .none, .none, (.ref 922)⟩,
  ⟨940, "_law_take_due", "_law_take_due", defArgs s__law_take_due, defBody s__law_take_due, defScope s__law_take_due, [], .none, .none, (.ref 939)⟩,
  ⟨599, "lowered", "lowered", defArgs s_lowered, defBody s_lowered, defScope s_lowered, [], .none, .none, (.ref 598)⟩,
  ⟨580, "without_birth", "without_birth", defArgs s_without_birth, defBody s_without_birth, defScope s_without_birth, [], .none, .none, (.ref 579)⟩,
  ⟨680, "take", "Grown.take", defArgs s_Grown_take, defBody s_Grown_take, defScope s_Grown_take, [], .none, .none, (.ref 679)⟩,
  ⟨930, "_law_less", "_law_less", defArgs s__law_less, defBody s__law_less, defScope s__law_less, [], .none, .none, (.ref 929)⟩,
  ⟨935, "_law_taken", "_law_taken", defArgs s__law_taken, defBody s__law_taken, defScope s__law_taken, [], .none, .none, (.ref 934)⟩,
  ⟨954, "_law_try_take", "_law_try_take", defArgs s__law_try_take, defBody s__law_try_take, defScope s__law_try_take, [], .none, .none, (.ref 953)⟩,
  ⟨708, "births", "Grown.births", defArgs s_Grown_births, defBody s_Grown_births, defScope s_Grown_births, [], .none, .none, (.ref 707)⟩,
  ⟨811, "_law_same", "_law_same", defArgs s__law_same, defBody s__law_same, defScope s__law_same, [], .none, .none, (.ref 810)⟩,
  ⟨785, "columns", "columns", defArgs s_columns, defBody s_columns, defScope s_columns, [], .none, .none, (.ref 784)⟩,
  ⟨961, "law", "law", defArgs s_law, defBody s_law, defScope s_law, [], .none, .none, (.ref 960)⟩]
theorem runR (w : World) : HandSHeadRun.RunEq rowR viewR (Hd.hook cks fds) (Hd.ob cks fds) 60000 looseR w := by
  intro os
  kernel_rfl
end G
namespace G
open PySem PySem.Spec PyProof.Rows L2
noncomputable def b_is_string : Sx :=
    (s_ret (e_and (e_isi .str (e_var 0)) (e_bi (f_bls fun bs => bs.all id) (a_cons (e_comp [2] (i_any (e_var 0)) (g_name 2) e_yes (e_op f_in (e_var 2) (e_var 1))) a_nil))))
noncomputable def m_is_string : List VD → Mem → Res VD := fnM 3 b_is_string
noncomputable def b_is_row : Sx :=
    (s_ret (e_and (e_call 2 m_is_string (a_cons (e_var 0) (a_cons (e_var 1) a_nil))) (e_op f_le (e_bi f_len (a_cons (e_var 0) a_nil)) (e_c (.int 16)))))
noncomputable def m_is_row : List VD → Mem → Res VD := fnM 2 b_is_row
noncomputable def b_is_word : Sx :=
    (s_ret (e_and (e_call 2 m_is_string (a_cons (e_var 0) (a_cons (e_var 1) a_nil))) (e_op f_le (e_bi f_len (a_cons (e_var 0) a_nil)) (e_c (.int 3)))))
noncomputable def m_is_word : List VD → Mem → Res VD := fnM 2 b_is_word
noncomputable def b_is_gap : Sx :=
    (s_seq (s_if (e_orT (e_notT (e_truth (e_isi .str (e_var 0)))) (e_asB (e_op f_ne (e_bi f_len (a_cons (e_var 0) a_nil)) (e_c (.int 2))))) (s_ret (e_c (.bl false))) s_skip)
    (s_ret (e_and (e_op f_in (e_op f_ix (e_var 0) (e_c (.int 0))) (e_op f_add (e_c (.str [60])) (e_var 1))) (e_op f_in (e_op f_ix (e_var 0) (e_c (.int 1))) (e_op f_add (e_var 1) (e_c (.str [62])))))))
noncomputable def m_is_gap : List VD → Mem → Res VD := fnM 2 b_is_gap
noncomputable def b__law_open : Sx :=
    (s_seq (s_asg (e_c (.int 4938)) (g_name 1))
    (s_seq (s_for (i_any (e_sl (e_var 0) o_none (o_some (e_c (.int 63))))) (g_name 2) (s_asg (e_op f_mod (e_bi f_int (a_cons (e_op f_add (e_op f_add (e_op f_mul (e_var 1) (e_c (.int 44021))) (e_op f_mul (e_op f_mod (e_bi f_int (a_cons (e_var 2) a_nil)) (e_c (.int 1000003))) (e_c (.int 853)))) (e_c (.int 23))) a_nil)) (e_c (.int 2147483587))) (g_name 1)))
    (s_ret (e_lstO (a_cons (e_bi f_list (a_cons (e_sl (e_var 0) o_none (o_some (e_c (.int 63)))) a_nil)) (a_cons (e_c (.int 0)) (a_cons (e_c (.int 0)) (a_cons (e_var 1) (a_cons (e_c (.int 0)) a_nil)))))))))
noncomputable def m__law_open : List VD → Mem → Res VD := fnM 3 b__law_open
noncomputable def b__law_draw : Sx :=
    (s_seq (s_seti (e_op f_add (e_op f_ix (e_var 0) (e_c (.int 4))) (e_c (.int 1))) (e_var 0) (e_c (.int 4)))
    (s_seq (s_if (e_andT (e_asB (e_op f_eq (e_op f_ix (e_var 0) (e_c (.int 2))) (e_c (.int 0)))) (e_asB (e_op f_lt (e_op f_ix (e_var 0) (e_c (.int 1))) (e_bi f_len (a_cons (e_op f_ix (e_var 0) (e_c (.int 0))) a_nil))))) (s_seq (s_asg (e_op f_ix (e_op f_ix (e_var 0) (e_c (.int 0))) (e_op f_ix (e_var 0) (e_c (.int 1)))) (g_name 3))
    (s_seq (s_seti (e_op f_add (e_op f_ix (e_var 0) (e_c (.int 1))) (e_c (.int 1))) (e_var 0) (e_c (.int 1)))
    (s_if (e_asB (e_op f_ge (e_bi f_abs (a_cons (e_var 3) a_nil)) (e_op f_pow (e_c (.int 10)) (e_c (.int 18))))) (s_seti (e_bi f_abs (a_cons (e_var 3) a_nil)) (e_var 0) (e_c (.int 2))) (s_seti (e_op f_mod (e_bi f_int (a_cons (e_op f_add (e_op f_add (e_op f_mul (e_op f_ix (e_var 0) (e_c (.int 3))) (e_c (.int 38113))) (e_op f_mul (e_op f_mod (e_bi f_int (a_cons (e_var 3) a_nil)) (e_c (.int 1000003))) (e_c (.int 691)))) (e_c (.int 47))) a_nil)) (e_c (.int 2147483629))) (e_var 0) (e_c (.int 3)))))) s_skip)
    (s_seq (s_if (e_asB (e_op f_gt (e_op f_ix (e_var 0) (e_c (.int 2))) (e_c (.int 0)))) (s_seq (s_asg (e_op f_mod (e_bi f_int (a_cons (e_op f_ix (e_var 0) (e_c (.int 2))) a_nil)) (e_var 1)) (g_name 4))
    (s_seq (s_seti (e_op f_fdiv (e_op f_ix (e_var 0) (e_c (.int 2))) (e_var 1)) (e_var 0) (e_c (.int 2)))
    (s_ret (e_var 4)))) s_skip)
    (s_seq (s_asg (e_op f_mod (e_bi f_int (a_cons (e_op f_add (e_op f_mul (e_op f_ix (e_var 0) (e_c (.int 3))) (e_op f_ix (e_var 0) (e_c (.int 3)))) (e_op f_mul (e_op f_ix (e_var 0) (e_c (.int 4))) (e_c (.int 9133)))) a_nil)) (e_c (.int 2147483549))) (g_name 2))
    (s_seq (s_seti (e_op f_mod (e_bi f_int (a_cons (e_op f_add (e_op f_add (e_op f_mul (e_var 2) (e_c (.int 16033))) (e_op f_mul (e_op f_ix (e_var 0) (e_c (.int 3))) (e_c (.int 51043)))) (e_c (.int 60029))) a_nil)) (e_c (.int 2147483629))) (e_var 0) (e_c (.int 3)))
    (s_ret (e_op f_mod (e_bi f_int (a_cons (e_op f_fdiv (e_op f_ix (e_var 0) (e_c (.int 3))) (e_c (.int 64))) a_nil)) (e_var 1))))))))
noncomputable def m__law_draw : List VD → Mem → Res VD := fnM 5 b__law_draw
noncomputable def b__law_of : Sx :=
    (s_ret (e_op f_ix (e_var 1) (e_call 2 m__law_draw (a_cons (e_var 0) (a_cons (e_bi f_len (a_cons (e_var 1) a_nil)) a_nil)))))
noncomputable def m__law_of : List VD → Mem → Res VD := fnM 2 b__law_of
noncomputable def b__law_same (rec : List VD → Mem → Res VD) : Sx :=
    (s_seq (s_if (e_orT (e_asB (e_op (f_is false) (e_var 1) (e_c .non))) (e_asB (e_op (f_is false) (e_var 0) (e_c .non)))) (s_ret (e_and (e_op (f_is false) (e_var 1) (e_c .non)) (e_op (f_is false) (e_var 0) (e_c .non)))) s_skip)
    (s_seq (s_if (e_truth (e_isi2 .list .tuple (e_var 1))) (s_seq (s_if (e_asB (e_op f_ne (e_isi .list (e_var 0)) (e_isi .list (e_var 1)))) (s_ret (e_c (.bl false))) s_skip)
    (s_seq (s_if (e_orT (e_asB (e_op f_ne (e_isi .tuple (e_var 0)) (e_isi .tuple (e_var 1)))) (e_asB (e_op f_ne (e_bi f_len (a_cons (e_var 0) a_nil)) (e_bi f_len (a_cons (e_var 1) a_nil))))) (s_ret (e_c (.bl false))) s_skip)
    (s_ret (e_bi (f_bls fun bs => bs.all id) (a_cons (e_comp [2, 3] (i_zip (a_cons (e_var 0) (a_cons (e_var 1) a_nil))) (g_tup 2 (g_cons (g_name 2) (g_cons (g_name 3) g_nil))) e_yes (e_call 2 rec (a_cons (e_var 2) (a_cons (e_var 3) a_nil)))) a_nil))))) s_skip)
    (s_seq (s_if (e_truth (e_isi2 .list .tuple (e_var 0))) (s_ret (e_c (.bl false))) s_skip)
    (s_seq (s_if (e_asB (e_op f_ne (e_isi .bool (e_var 0)) (e_isi .bool (e_var 1)))) (s_ret (e_c (.bl false))) s_skip)
    (s_seq (s_if (e_asB (e_op f_ne (e_isi .int (e_var 0)) (e_isi .int (e_var 1)))) (s_ret (e_c (.bl false))) s_skip)
    (s_ret (e_and (e_op f_eq (e_isi .str (e_var 0)) (e_isi .str (e_var 1))) (e_op f_eq (e_var 0) (e_var 1)))))))))
noncomputable def m__law_same : Nat → List VD → Mem → Res VD
  | 0 => fun _ _ => .fail
  | n + 1 => fnM 4 (b__law_same (m__law_same n))
noncomputable def b__law_letters : Sx :=
    (s_seq (s_asg (e_tup (a_cons (e_c (.str [])) (a_cons (e_c (.int 0)) a_nil))) (g_tup 2 (g_cons (g_name 4) (g_cons (g_name 5) g_nil))))
    (s_seq (s_for (i_rng1 (a_cons (e_var 2) a_nil)) (g_name 3) (s_seq (s_asg (e_op f_add (e_var 5) (e_call 2 m__law_draw (a_cons (e_var 0) (a_cons (e_op f_sub (e_op f_sub (e_bi f_len (a_cons (e_var 1) a_nil)) (e_var 5)) (e_op f_sub (e_op f_sub (e_var 2) (e_c (.int 1))) (e_var 3))) a_nil)))) (g_name 6))
    (s_par 4 5 (a_cons (e_op f_add (e_var 4) (e_op f_ix (e_var 1) (e_var 6))) (a_cons (e_op f_add (e_var 6) (e_c (.int 1))) a_nil)))))
    (s_ret (e_var 4))))
noncomputable def m__law_letters : List VD → Mem → Res VD := fnM 7 b__law_letters
noncomputable def b__law_some_kinds : Sx :=
    (s_ret (e_call 3 m__law_letters (a_cons (e_var 0) (a_cons (e_c (.str [97, 98, 99, 100, 101, 102, 103, 104, 105, 106, 107, 108, 109, 110, 111, 112, 113, 114, 115, 116, 117, 118, 119, 120, 121, 122])) (a_cons (e_op f_add (e_c (.int 1)) (e_call 2 m__law_draw (a_cons (e_var 0) (a_cons (e_var 1) a_nil)))) a_nil)))))
noncomputable def m__law_some_kinds : List VD → Mem → Res VD := fnM 2 b__law_some_kinds
noncomputable def b_is_number : Sx :=
    (s_ret (e_and (e_isi .int (e_var 0)) (e_and (e_not (e_isi .bool (e_var 0))) (e_chain f_le f_le (e_var 1) (e_var 0) (e_var 2)))))
noncomputable def m_is_number : List VD → Mem → Res VD := fnM 3 b_is_number
noncomputable def b_is_rising : Sx :=
    (s_seq (s_if (e_orT (e_notT (e_truth (e_isi .str (e_var 0)))) (e_notT (e_asB (e_chain f_le f_le (e_c (.int 1)) (e_bi f_len (a_cons (e_var 0) a_nil)) (e_var 2))))) (s_ret (e_c (.bl false))) s_skip)
    (s_ret (e_and (e_bi (f_bls fun bs => bs.all id) (a_cons (e_comp [3] (i_any (e_var 0)) (g_name 3) e_yes (e_op f_in (e_var 3) (e_var 1))) a_nil)) (e_op f_eq (e_bi f_list (a_cons (e_var 0) a_nil)) (e_bi f_srt (a_cons (e_var 0) a_nil))))))
noncomputable def m_is_rising : List VD → Mem → Res VD := fnM 4 b_is_rising
noncomputable def b_is_kinds : Sx :=
    (s_ret (e_call 3 m_is_rising (a_cons (e_var 0) (a_cons (e_c (.str [97, 98, 99, 100, 101, 102, 103, 104, 105, 106, 107, 108, 109, 110, 111, 112, 113, 114, 115, 116, 117, 118, 119, 120, 121, 122])) (a_cons (e_c (.int 6)) a_nil)))))
noncomputable def m_is_kinds : List VD → Mem → Res VD := fnM 1 b_is_kinds
noncomputable def b_is_comers : Sx :=
    (s_ret (e_call 3 m_is_rising (a_cons (e_var 0) (a_cons (e_c (.str [65, 66, 67, 68, 69, 70, 71, 72, 73, 74, 75, 76, 77, 78, 79, 80, 81, 82, 83, 84, 85, 86, 87, 88, 89, 90])) (a_cons (e_c (.int 4)) a_nil)))))
noncomputable def m_is_comers : List VD → Mem → Res VD := fnM 1 b_is_comers
noncomputable def b__law_some_comers : Sx :=
    (s_ret (e_call 3 m__law_letters (a_cons (e_var 0) (a_cons (e_c (.str [65, 66, 67, 68, 69, 70, 71, 72, 73, 74, 75, 76, 77, 78, 79, 80, 81, 82, 83, 84, 85, 86, 87, 88, 89, 90])) (a_cons (e_op f_add (e_c (.int 1)) (e_call 2 m__law_draw (a_cons (e_var 0) (a_cons (e_var 1) a_nil)))) a_nil)))))
noncomputable def m__law_some_comers : List VD → Mem → Res VD := fnM 2 b__law_some_comers
noncomputable def b__law_part : Sx :=
    (s_seq (s_asg (e_m1 f_join (e_c (.str [])) (e_comp [3] (i_any (e_var 1)) (g_name 3) (e_asB (e_op f_eq (e_call 2 m__law_draw (a_cons (e_var 0) (a_cons (e_c (.int 2)) a_nil))) (e_c (.int 0)))) (e_var 3))) (g_name 2))
    (s_ret (e_if (e_andT (e_asB (e_op f_ne (e_var 2) (e_c (.str [])))) (e_asB (e_op f_gt (e_call 2 m__law_draw (a_cons (e_var 0) (a_cons (e_c (.int 3)) a_nil))) (e_c (.int 0))))) (e_var 2) (e_c (.str [46])))))
noncomputable def m__law_part : List VD → Mem → Res VD := fnM 4 b__law_part
noncomputable def b__law_string : Sx :=
    (s_ret (e_m1 f_join (e_c (.str [])) (e_comp [3] (i_rng1 (a_cons (e_call 2 m__law_draw (a_cons (e_var 0) (a_cons (e_op f_add (e_var 2) (e_c (.int 1))) a_nil))) a_nil)) (g_name 3) e_yes (e_call 2 m__law_of (a_cons (e_var 0) (a_cons (e_var 1) a_nil))))))
noncomputable def m__law_string : List VD → Mem → Res VD := fnM 4 b__law_string
noncomputable def b__law_line : Sx :=
    (s_seq (s_par3 4 5 6 (a_cons (e_call 2 m__law_part (a_cons (e_var 0) (a_cons (e_op f_add (e_c (.str [60])) (e_var 1)) a_nil))) (a_cons (e_call 2 m__law_part (a_cons (e_var 0) (a_cons (e_var 2) a_nil))) (a_cons (e_call 2 m__law_part (a_cons (e_var 0) (a_cons (e_op f_add (e_c (.str [62])) (e_var 1)) a_nil))) a_nil))))
    (s_ret (e_tup (a_cons (e_var 4) (a_cons (e_var 5) (a_cons (e_var 6) (a_cons (e_call 3 m__law_string (a_cons (e_var 0) (a_cons (e_var 1) (a_cons (e_var 3) a_nil)))) a_nil)))))))
noncomputable def m__law_line : List VD → Mem → Res VD := fnM 7 b__law_line
noncomputable def b__law_some_book : Sx :=
    (s_seq (s_asg (e_tup (a_cons (e_call 2 m__law_some_kinds (a_cons (e_var 0) (a_cons (e_op f_ix (e_var 1) (e_c (.int 0))) a_nil))) (a_cons (e_call 2 m__law_some_comers (a_cons (e_var 0) (a_cons (e_op f_ix (e_var 1) (e_c (.int 1))) a_nil))) a_nil))) (g_tup 2 (g_cons (g_name 3) (g_cons (g_name 4) g_nil))))
    (s_seq (s_asg (e_compN [5] (i_rng1 (a_cons (e_call 2 m__law_draw (a_cons (e_var 0) (a_cons (e_op f_add (e_op f_ix (e_var 1) (e_c (.int 2))) (e_c (.int 1))) a_nil))) a_nil)) (g_name 5) e_yes (e_call 4 m__law_line (a_cons (e_var 0) (a_cons (e_var 3) (a_cons (e_var 4) (a_cons (e_op f_ix (e_var 1) (e_c (.int 3))) a_nil)))))) (g_name 2))
    (s_seq (s_if (e_andT (e_asB (e_op f_gt (e_call 2 m__law_draw (a_cons (e_var 0) (a_cons (e_c (.int 3)) a_nil))) (e_c (.int 0)))) (e_asB (e_op f_lt (e_bi f_len (a_cons (e_var 2) a_nil)) (e_op f_ix (e_var 1) (e_c (.int 2)))))) (s_expr (e_app (e_var 2) (e_tup (a_cons (e_c (.str [46])) (a_cons (e_c (.str [46])) (a_cons (e_c (.str [46])) (a_cons (e_call 2 m__law_of (a_cons (e_var 0) (a_cons (e_var 3) a_nil))) a_nil))))))) s_skip)
    (s_frz 2 (s_ret (e_lst (a_cons (e_var 3) (a_cons (e_var 4) (a_cons (e_var 2) a_nil)))))))))
noncomputable def m__law_some_book : List VD → Mem → Res VD := fnM 6 b__law_some_book
noncomputable def b__law_line_text : Sx :=
    (s_ret (e_m1 f_join (e_c (.str [32])) (e_lst (a_cons (e_op f_ix (e_var 0) (e_c (.int 0))) (a_cons (e_op f_ix (e_var 0) (e_c (.int 1))) (a_cons (e_op f_ix (e_var 0) (e_c (.int 2))) (a_cons (e_if (e_asB (e_op f_ne (e_op f_ix (e_var 0) (e_c (.int 3))) (e_c (.str [])))) (e_op f_ix (e_var 0) (e_c (.int 3))) (e_c (.str [45]))) a_nil)))))))
noncomputable def m__law_line_text : List VD → Mem → Res VD := fnM 1 b__law_line_text
noncomputable def b__law_book_text : Sx :=
    (s_ret (e_m1 f_join (e_c (.str [10])) (e_op f_add (e_lst (a_cons (e_op f_add (e_op f_add (e_op f_ix (e_var 0) (e_c (.int 0))) (e_c (.str [32]))) (e_op f_ix (e_var 0) (e_c (.int 1)))) a_nil)) (e_comp [1] (i_any (e_op f_ix (e_var 0) (e_c (.int 2)))) (g_name 1) e_yes (e_call 1 m__law_line_text (a_cons (e_var 1) a_nil))))))
noncomputable def m__law_book_text : List VD → Mem → Res VD := fnM 2 b__law_book_text
noncomputable def b_line_of : Sx :=
    (s_seq (s_asg (e_m1 f_split (e_var 0) (e_c (.str [32]))) (g_name 1))
    (s_seq (s_if (e_orT (e_asB (e_op f_ne (e_bi f_len (a_cons (e_var 1) a_nil)) (e_c (.int 4)))) (e_asB (e_op f_in (e_c (.str [])) (e_var 1)))) (s_ret (e_c .non)) s_skip)
    (s_ret (e_tup (a_star (e_sl (e_var 1) o_none (o_some (e_c (.int 3)))) (a_cons (e_if (e_asB (e_op f_eq (e_op f_ix (e_var 1) (e_c (.int 3))) (e_c (.str [45])))) (e_c (.str [])) (e_op f_ix (e_var 1) (e_c (.int 3)))) a_nil))))))
noncomputable def m_line_of : List VD → Mem → Res VD := fnM 2 b_line_of
noncomputable def b_is_part : Sx :=
    (s_ret (e_and (e_isi .str (e_var 0)) (e_or (e_op f_eq (e_var 0) (e_c (.str [46]))) (e_call 3 m_is_rising (a_cons (e_var 0) (a_cons (e_var 1) (a_cons (e_bi f_len (a_cons (e_var 1) a_nil)) a_nil)))))))
noncomputable def m_is_part : List VD → Mem → Res VD := fnM 2 b_is_part
noncomputable def b_is_line : Sx :=
    (s_seq (s_if (e_orT (e_notT (e_truth (e_isi .tuple (e_var 0)))) (e_orT (e_asB (e_op f_ne (e_bi f_len (a_cons (e_var 0) a_nil)) (e_c (.int 4)))) (e_notT (e_truth (e_call 2 m_is_part (a_cons (e_op f_ix (e_var 0) (e_c (.int 0))) (a_cons (e_op f_add (e_c (.str [60])) (e_var 1)) a_nil))))))) (s_ret (e_c (.bl false))) s_skip)
    (s_ret (e_and (e_call 2 m_is_part (a_cons (e_op f_ix (e_var 0) (e_c (.int 1))) (a_cons (e_var 2) a_nil))) (e_and (e_call 2 m_is_part (a_cons (e_op f_ix (e_var 0) (e_c (.int 2))) (a_cons (e_op f_add (e_c (.str [62])) (e_var 1)) a_nil))) (e_call 2 m_is_word (a_cons (e_op f_ix (e_var 0) (e_c (.int 3))) (a_cons (e_var 1) a_nil)))))))
noncomputable def m_is_line : List VD → Mem → Res VD := fnM 3 b_is_line
noncomputable def b_Book___init__ : Sx :=
    (s_seq (s_if (e_notT (e_truth (e_call 1 m_is_kinds (a_cons (e_var 1) a_nil)))) s_fail s_skip)
    (s_seq (s_if (e_notT (e_truth (e_call 1 m_is_comers (a_cons (e_var 2) a_nil)))) s_fail s_skip)
    (s_seq (s_for (i_enumA (a_cons (e_var 3) a_nil)) (g_tup 2 (g_cons (g_name 4) (g_cons (g_name 5) g_nil))) (s_if (e_orT (e_asB (e_op f_ge (e_var 4) (e_c (.int 8)))) (e_notT (e_truth (e_call 3 m_is_line (a_cons (e_var 5) (a_cons (e_var 1) (a_cons (e_var 2) a_nil))))))) s_fail s_skip))
    (s_seq (s_fld (tb 0 0) (e_var 1) (e_var 0))
    (s_seq (s_fld (tb 0 1) (e_var 2) (e_var 0))
    (s_fld (tb 0 2) (e_bi f_list (a_cons (e_var 3) a_nil)) (e_var 0)))))))
noncomputable def m_Book___init__ : List VD → Mem → Res VD := fnM 6 b_Book___init__
noncomputable def p_Book___init__ : List VD → Mem → Res VD := arS 3 m_Book___init__
noncomputable def b_Book_read : Sx :=
    (s_seq (s_asg (e_if (e_truth (e_isi .str (e_var 0))) (e_m1 f_split (e_var 0) (e_c (.str [10]))) (e_lst (a_cons (e_c (.str [])) a_nil))) (g_name 1))
    (s_seq (s_asg (e_m1 f_split (e_op f_ix (e_var 1) (e_c (.int 0))) (e_c (.str [32]))) (g_name 2))
    (s_seq (s_if (e_orT (e_asB (e_op f_ne (e_bi f_len (a_cons (e_var 2) a_nil)) (e_c (.int 2)))) (e_orT (e_notT (e_truth (e_call 1 m_is_kinds (a_cons (e_op f_ix (e_var 2) (e_c (.int 0))) a_nil)))) (e_notT (e_truth (e_call 1 m_is_comers (a_cons (e_op f_ix (e_var 2) (e_c (.int 1))) a_nil)))))) s_fail s_skip)
    (s_seq (s_asg (e_lstO a_nil) (g_name 3))
    (s_seq (s_for (i_enumA (a_cons (e_var 1) a_nil)) (g_tup 2 (g_cons (g_name 4) (g_cons (g_name 5) g_nil))) (s_if (e_asB (e_op f_gt (e_var 4) (e_c (.int 0)))) (s_seq (s_asg (e_call 1 m_line_of (a_cons (e_var 5) a_nil)) (g_name 6))
    (s_seq (s_if (e_orT (e_asB (e_op f_gt (e_var 4) (e_c (.int 8)))) (e_notT (e_truth (e_call 3 m_is_line (a_cons (e_var 6) (a_cons (e_op f_ix (e_var 2) (e_c (.int 0))) (a_cons (e_op f_ix (e_var 2) (e_c (.int 1))) a_nil))))))) s_fail s_skip)
    (s_expr (e_app (e_var 3) (e_var 6))))) s_skip))
    (s_ret (e_make 0 3 p_Book___init__ (a_cons (e_op f_ix (e_var 2) (e_c (.int 0))) (a_cons (e_op f_ix (e_var 2) (e_c (.int 1))) (a_star (e_var 3) a_nil))))))))))
noncomputable def m_Book_read : List VD → Mem → Res VD := fnM 7 b_Book_read
noncomputable def b__law_book : Sx :=
    (s_ret (e_callP (ar 1 m_Book_read) (a_cons (e_call 1 m__law_book_text (a_cons (e_var 0) a_nil)) a_nil)))
noncomputable def m__law_book : List VD → Mem → Res VD := fnM 1 b__law_book
noncomputable def b_is_one : Sx :=
    (s_ret (e_and (e_isi .str (e_var 0)) (e_and (e_op f_eq (e_bi f_len (a_cons (e_var 0) a_nil)) (e_c (.int 1))) (e_op f_in (e_var 0) (e_var 1)))))
noncomputable def m_is_one : List VD → Mem → Res VD := fnM 2 b_is_one
noncomputable def b_takes : Sx :=
    (s_ret (e_or (e_op f_eq (e_var 0) (e_c (.str [46]))) (e_op f_in (e_var 1) (e_var 0))))
noncomputable def m_takes : List VD → Mem → Res VD := fnM 2 b_takes
noncomputable def b_Book_line_at : Sx :=
    (s_seq (s_if (e_notT (e_truth (e_call 2 m_is_gap (a_cons (e_var 1) (a_cons (e_fld (tb 0 0) (e_var 0)) a_nil))))) s_fail s_skip)
    (s_seq (s_if (e_notT (e_truth (e_call 2 m_is_one (a_cons (e_var 2) (a_cons (e_fld (tb 0 1) (e_var 0)) a_nil))))) s_fail s_skip)
    (s_seq (s_for (i_enumA (a_cons (e_fld (tb 0 2) (e_var 0)) a_nil)) (g_tup 2 (g_cons (g_name 3) (g_cons (g_name 4) g_nil))) (s_if (e_andT (e_truth (e_call 2 m_takes (a_cons (e_op f_ix (e_var 4) (e_c (.int 0))) (a_cons (e_op f_ix (e_var 1) (e_c (.int 0))) a_nil)))) (e_andT (e_truth (e_call 2 m_takes (a_cons (e_op f_ix (e_var 4) (e_c (.int 1))) (a_cons (e_var 2) a_nil)))) (e_truth (e_call 2 m_takes (a_cons (e_op f_ix (e_var 4) (e_c (.int 2))) (a_cons (e_op f_ix (e_var 1) (e_c (.int 1))) a_nil)))))) (s_ret (e_var 3)) s_skip))
    (s_ret (e_c .non)))))
noncomputable def m_Book_line_at : List VD → Mem → Res VD := fnM 5 b_Book_line_at
noncomputable def b_Book_word : Sx :=
    (s_seq (s_asg (e_meth 0 (ar 3 m_Book_line_at) (e_var 0) (a_cons (e_var 1) (a_cons (e_var 2) a_nil))) (g_name 3))
    (s_ret (e_if (e_asB (e_op (f_is false) (e_var 3) (e_c .non))) (e_c (.str [])) (e_op f_ix (e_op f_ix (e_fld (tb 0 2) (e_var 0)) (e_var 3)) (e_c (.int 3))))))
noncomputable def m_Book_word : List VD → Mem → Res VD := fnM 4 b_Book_word
noncomputable def b__law_fits : Sx :=
    (s_ret (e_or (e_op f_eq (e_var 0) (e_c (.str [46]))) (e_op f_in (e_var 1) (e_var 0))))
noncomputable def m__law_fits : List VD → Mem → Res VD := fnM 2 b__law_fits
noncomputable def b__law_line_at : Sx :=
    (s_seq (s_for (i_enumA (a_cons (e_op f_ix (e_var 0) (e_c (.int 2))) a_nil)) (g_tup 2 (g_cons (g_name 3) (g_cons (g_name 4) g_nil))) (s_seq (s_asg (e_lst (a_cons (e_call 2 m__law_fits (a_cons (e_op f_ix (e_var 4) (e_c (.int 0))) (a_cons (e_op f_ix (e_var 1) (e_c (.int 0))) a_nil))) (a_cons (e_call 2 m__law_fits (a_cons (e_op f_ix (e_var 4) (e_c (.int 1))) (a_cons (e_var 2) a_nil))) (a_cons (e_call 2 m__law_fits (a_cons (e_op f_ix (e_var 4) (e_c (.int 2))) (a_cons (e_op f_ix (e_var 1) (e_c (.int 1))) a_nil))) a_nil)))) (g_name 5))
    (s_if (e_truth (e_bi (f_bls fun bs => bs.all id) (a_cons (e_var 5) a_nil))) (s_ret (e_var 3)) s_skip)))
    (s_ret (e_c .non)))
noncomputable def m__law_line_at : List VD → Mem → Res VD := fnM 6 b__law_line_at
noncomputable def b__law_parts : Sx :=
    (s_seq (s_asg (e_op f_add (e_op f_add (e_op f_ix (e_var 0) (e_c (.int 0))) (e_var 1)) (e_op f_ix (e_var 0) (e_c (.int 1)))) (g_name 2))
    (s_ret (e_comp [3] (i_rng1 (a_cons (e_op f_add (e_bi f_len (a_cons (e_var 1) a_nil)) (e_c (.int 1))) a_nil)) (g_name 3) e_yes (e_sl (e_var 2) (o_some (e_var 3)) (o_some (e_op f_add (e_var 3) (e_c (.int 2))))))))
noncomputable def m__law_parts : List VD → Mem → Res VD := fnM 4 b__law_parts
noncomputable def b__law_row_gaps : Sx :=
    (s_ret (e_call 2 m__law_parts (a_cons (e_c (.str [60, 62])) (a_cons (e_var 0) a_nil))))
noncomputable def m__law_row_gaps : List VD → Mem → Res VD := fnM 1 b__law_row_gaps
noncomputable def b__law_word : Sx :=
    (s_seq (s_asg (e_call 3 m__law_line_at (a_cons (e_var 0) (a_cons (e_var 1) (a_cons (e_var 2) a_nil)))) (g_name 3))
    (s_ret (e_if (e_asB (e_op (f_is false) (e_var 3) (e_c .non))) (e_c (.str [])) (e_op f_ix (e_op f_ix (e_op f_ix (e_var 0) (e_c (.int 2))) (e_var 3)) (e_c (.int 3))))))
noncomputable def m__law_word : List VD → Mem → Res VD := fnM 4 b__law_word
noncomputable def b_gap_at : Sx :=
    (s_seq (s_asg (e_op f_add (e_op f_add (e_c (.str [60])) (e_var 0)) (e_c (.str [62]))) (g_name 2))
    (s_ret (e_sl (e_var 2) (o_some (e_var 1)) (o_some (e_op f_add (e_var 1) (e_c (.int 2)))))))
noncomputable def m_gap_at : List VD → Mem → Res VD := fnM 3 b_gap_at
noncomputable def b__law_begin : Sx :=
    (s_ret (e_comp [1, 2] (i_enumX (a_cons (e_var 0) a_nil)) (g_tup 2 (g_cons (g_name 1) (g_cons (g_name 2) g_nil))) e_yes (e_tup (a_cons (e_var 2) (a_cons (e_c (.int (-1))) (a_cons (e_var 1) a_nil))))))
noncomputable def m__law_begin : List VD → Mem → Res VD := fnM 3 b__law_begin
noncomputable def b__law_home : Sx :=
    (s_seq (s_par 2 3 (a_cons (e_sl (e_var 0) (o_some (e_bi f_max2 (a_cons (e_op f_sub (e_var 1) (e_c (.int 1))) (a_cons (e_c (.int 0)) a_nil)))) (o_some (e_var 1))) (a_cons (e_sl (e_var 0) (o_some (e_var 1)) (o_some (e_op f_add (e_var 1) (e_c (.int 1))))) a_nil)))
    (s_seq (s_if (e_andT (e_asB (e_op f_eq (e_var 2) (e_lst a_nil))) (e_asB (e_op f_eq (e_var 3) (e_lst a_nil)))) (s_ret (e_tup (a_cons (e_c (.int (-1))) (a_cons (e_c (.int 0)) a_nil)))) s_skip)
    (s_seq (s_if (e_orT (e_asB (e_op f_eq (e_var 3) (e_lst a_nil))) (e_andT (e_asB (e_op f_ne (e_var 2) (e_lst a_nil))) (e_asB (e_op f_gt (e_op f_ix (e_op f_ix (e_var 2) (e_c (.int 0))) (e_c (.int 1))) (e_op f_ix (e_op f_ix (e_var 3) (e_c (.int 0))) (e_c (.int 1))))))) (s_ret (e_tup (a_cons (e_op f_ix (e_op f_ix (e_var 2) (e_c (.int 0))) (e_c (.int 1))) (a_cons (e_op f_add (e_op f_ix (e_op f_ix (e_var 2) (e_c (.int 0))) (e_c (.int 2))) (e_c (.int 1))) a_nil)))) s_skip)
    (s_ret (e_tup (a_cons (e_op f_ix (e_op f_ix (e_var 3) (e_c (.int 0))) (e_c (.int 1))) (a_cons (e_op f_ix (e_op f_ix (e_var 3) (e_c (.int 0))) (e_c (.int 2))) a_nil)))))))
noncomputable def m__law_home : List VD → Mem → Res VD := fnM 4 b__law_home
noncomputable def b__law_put : Sx :=
    (s_seq (s_asg (e_var 1) (g_tup 2 (g_cons (g_name 7) (g_cons (g_name 8) g_nil))))
    (s_seq (s_asg (e_var 2) (g_tup 2 (g_cons (g_name 9) (g_cons (g_name 10) g_nil))))
    (s_seq (s_asg (e_m1 f_join (e_c (.str [])) (e_comp [11] (i_any (e_var 7)) (g_name 11) e_yes (e_op f_ix (e_var 11) (e_c (.int 0))))) (g_name 3))
    (s_seq (s_asg (e_call 3 m__law_word (a_cons (e_var 0) (a_cons (e_op f_ix (e_call 1 m__law_row_gaps (a_cons (e_var 3) a_nil)) (e_var 9)) (a_cons (e_var 10) a_nil)))) (g_name 4))
    (s_seq (s_if (e_asB (e_op f_eq (e_var 4) (e_c (.str [])))) (s_ret (e_var 1)) s_skip)
    (s_seq (s_asg (e_call 2 m__law_home (a_cons (e_var 7) (a_cons (e_var 9) a_nil))) (g_name 5))
    (s_seq (s_asg (e_comp [12, 13] (i_enumX (a_cons (e_var 4) a_nil)) (g_tup 2 (g_cons (g_name 12) (g_cons (g_name 13) g_nil))) e_yes (e_tup (a_cons (e_var 13) (a_cons (e_bi f_len (a_cons (e_var 8) a_nil)) (a_cons (e_var 12) a_nil))))) (g_name 6))
    (s_ret (e_tup (a_cons (e_op f_add (e_op f_add (e_sl (e_var 7) o_none (o_some (e_var 9))) (e_var 6)) (e_sl (e_var 7) (o_some (e_var 9)) o_none)) (a_cons (e_op f_add (e_var 8) (e_lst (a_cons (e_tup (a_cons (e_var 10) (a_cons (e_var 4) (a_cons (e_op f_ix (e_var 5) (e_c (.int 0))) (a_cons (e_op f_ix (e_var 5) (e_c (.int 1))) a_nil))))) a_nil))) a_nil)))))))))))
noncomputable def m__law_put : List VD → Mem → Res VD := fnM 14 b__law_put
noncomputable def b_letters_of : Sx :=
    (s_ret (e_comp [1, 2] (i_enumX (a_cons (e_var 0) a_nil)) (g_tup 2 (g_cons (g_name 1) (g_cons (g_name 2) g_nil))) e_yes (e_tup (a_cons (e_var 2) (a_cons (e_c .non) (a_cons (e_var 1) a_nil))))))
noncomputable def m_letters_of : List VD → Mem → Res VD := fnM 3 b_letters_of
noncomputable def b_spelled_letters : Sx :=
    (s_ret (e_m1 f_join (e_c (.str [])) (e_comp [1] (i_any (e_var 0)) (g_name 1) e_yes (e_op f_ix (e_var 1) (e_c (.int 0))))))
noncomputable def m_spelled_letters : List VD → Mem → Res VD := fnM 2 b_spelled_letters
noncomputable def b_age_of : Sx :=
    (s_ret (e_if (e_asB (e_op (f_is false) (e_op f_ix (e_var 0) (e_c (.int 1))) (e_c .non))) (e_c (.int (-1))) (e_op f_ix (e_var 0) (e_c (.int 1)))))
noncomputable def m_age_of : List VD → Mem → Res VD := fnM 1 b_age_of
noncomputable def b_birth_home : Sx :=
    (s_seq (s_asg (e_if (e_asB (e_op f_gt (e_var 1) (e_c (.int 0)))) (e_op f_ix (e_var 0) (e_op f_sub (e_var 1) (e_c (.int 1)))) (e_c .non)) (g_name 2))
    (s_seq (s_asg (e_if (e_asB (e_op f_lt (e_var 1) (e_bi f_len (a_cons (e_var 0) a_nil)))) (e_op f_ix (e_var 0) (e_var 1)) (e_c .non)) (g_name 3))
    (s_seq (s_if (e_andT (e_asB (e_op (f_is false) (e_var 2) (e_c .non))) (e_asB (e_op (f_is false) (e_var 3) (e_c .non)))) (s_ret (e_tup (a_cons (e_c .non) (a_cons (e_c (.int 0)) a_nil)))) s_skip)
    (s_seq (s_if (e_orT (e_asB (e_op (f_is false) (e_var 3) (e_c .non))) (e_andT (e_asB (e_op (f_is true) (e_var 2) (e_c .non))) (e_asB (e_op f_gt (e_call 1 m_age_of (a_cons (e_var 2) a_nil)) (e_call 1 m_age_of (a_cons (e_var 3) a_nil)))))) (s_ret (e_tup (a_cons (e_op f_ix (e_var 2) (e_c (.int 1))) (a_cons (e_op f_add (e_op f_ix (e_var 2) (e_c (.int 2))) (e_c (.int 1))) a_nil)))) s_skip)
    (s_ret (e_tup (a_cons (e_op f_ix (e_var 3) (e_c (.int 1))) (a_cons (e_op f_ix (e_var 3) (e_c (.int 2))) a_nil))))))))
noncomputable def m_birth_home : List VD → Mem → Res VD := fnM 4 b_birth_home
noncomputable def b_with_birth : Sx :=
    (s_seq (s_asg (e_var 3) (g_tup 2 (g_cons (g_name 6) (g_cons (g_name 7) g_nil))))
    (s_seq (s_asg (e_meth 0 (ar 3 m_Book_word) (e_var 0) (a_cons (e_call 2 m_gap_at (a_cons (e_call 1 m_spelled_letters (a_cons (e_var 1) a_nil)) (a_cons (e_var 6) a_nil))) (a_cons (e_var 7) a_nil))) (g_name 4))
    (s_seq (s_if (e_asB (e_op f_eq (e_var 4) (e_c (.str [])))) (s_ret (e_tup (a_cons (e_var 1) (a_cons (e_var 2) a_nil)))) s_skip)
    (s_seq (s_asg (e_call 2 m_birth_home (a_cons (e_var 1) (a_cons (e_var 6) a_nil))) (g_tup 2 (g_cons (g_name 8) (g_cons (g_name 9) g_nil))))
    (s_seq (s_asg (e_comp [10, 11] (i_enumX (a_cons (e_var 4) a_nil)) (g_tup 2 (g_cons (g_name 10) (g_cons (g_name 11) g_nil))) e_yes (e_tup (a_cons (e_var 11) (a_cons (e_bi f_len (a_cons (e_var 2) a_nil)) (a_cons (e_var 10) a_nil))))) (g_name 5))
    (s_ret (e_tup (a_cons (e_lst (a_star (e_sl (e_var 1) o_none (o_some (e_var 6))) (a_star (e_var 5) (a_star (e_sl (e_var 1) (o_some (e_var 6)) o_none) a_nil)))) (a_cons (e_lst (a_star (e_var 2) (a_cons (e_tup (a_cons (e_var 7) (a_cons (e_var 4) (a_cons (e_var 8) (a_cons (e_var 9) a_nil))))) a_nil))) a_nil)))))))))
noncomputable def m_with_birth : List VD → Mem → Res VD := fnM 12 b_with_birth
noncomputable def b_Grown___init__ : Sx :=
    (s_seq (s_if (e_notT (e_truth (e_call 2 m_is_row (a_cons (e_var 2) (a_cons (e_fld (tb 0 0) (e_var 1)) a_nil))))) s_fail s_skip)
    (s_seq (s_if (e_notT (e_truth (e_call 3 m_is_number (a_cons (e_var 3) (a_cons (e_bi f_max2 (a_cons (e_c (.int 1)) (a_cons (e_bi f_len (a_cons (e_var 2) a_nil)) a_nil))) (a_cons (e_c (.int 99)) a_nil)))))) s_fail s_skip)
    (s_seq (s_fld (tb 50 0) (e_var 1) (e_var 0))
    (s_seq (s_fld (tb 50 1) (e_var 2) (e_var 0))
    (s_seq (s_fld (tb 50 2) (e_c (.bl false)) (e_var 0))
    (s_seq (s_fld (tb 50 3) (e_var 3) (e_var 0))
    (s_seq (s_fld (tb 50 4) (e_call 1 m_letters_of (a_cons (e_var 2) a_nil)) (e_var 0))
    (s_seq (s_fld (tb 50 5) (e_lst a_nil) (e_var 0))
    (s_seq (s_fld (tb 50 6) (e_lst a_nil) (e_var 0))
    (s_fld (tb 50 7) (e_lst a_nil) (e_var 0)))))))))))
noncomputable def m_Grown___init__ : List VD → Mem → Res VD := fnM 4 b_Grown___init__
noncomputable def b_Grown_put_in : Sx :=
    (s_seq (s_if (e_notT (e_truth (e_call 3 m_is_number (a_cons (e_op f_ix (e_var 1) (e_c (.int 0))) (a_cons (e_c (.int 0)) (a_cons (e_bi f_len (a_cons (e_fld (tb 50 4) (e_var 0)) a_nil)) a_nil)))))) s_fail s_skip)
    (s_seq (s_asg (e_call 4 m_with_birth (a_cons (e_fld (tb 50 0) (e_var 0)) (a_cons (e_fld (tb 50 4) (e_var 0)) (a_cons (e_fld (tb 50 5) (e_var 0)) (a_cons (e_var 1) a_nil))))) (g_tup 2 (g_cons (g_name 3) (g_cons (g_name 4) g_nil))))
    (s_seq (s_asg (e_op f_sub (e_bi f_len (a_cons (e_var 4) a_nil)) (e_bi f_len (a_cons (e_fld (tb 50 5) (e_var 0)) a_nil))) (g_name 2))
    (s_seq (s_if (e_andT (e_asB (e_op f_gt (e_var 2) (e_c (.int 0)))) (e_asB (e_op f_gt (e_bi f_len (a_cons (e_var 3) a_nil)) (e_fld (tb 50 3) (e_var 0))))) s_fail s_skip)
    (s_seq (s_asgA 2 (a_cons (e_var 3) (a_cons (e_var 4) a_nil)) (ga_fld (tb 50 4) (e_var 0) (ga_fld (tb 50 5) (e_var 0) ga_nil)))
    (s_ret (e_if (e_asB (e_op f_gt (e_var 2) (e_c (.int 0)))) (e_op f_ix (e_op f_ix (e_var 4) (e_c (.int (-1)))) (e_c (.int 1))) (e_c (.str [])))))))))
noncomputable def m_Grown_put_in : List VD → Mem → Res VD := fnM 5 b_Grown_put_in
noncomputable def b_Grown_turn_to : Sx :=
    (s_if (e_asB (e_op f_ne (e_bi f_len (a_cons (e_var 2) a_nil)) (e_bi f_len (a_cons (e_fld (tb 50 5) (e_var 0)) a_nil)))) (s_seq (s_fld (tb 50 6) (e_lst (a_star (e_fld (tb 50 6) (e_var 0)) (a_cons (e_tup (a_cons (e_fld (tb 50 4) (e_var 0)) (a_cons (e_fld (tb 50 5) (e_var 0)) a_nil))) a_nil))) (e_var 0))
    (s_seq (s_fld (tb 50 7) (e_lst a_nil) (e_var 0))
    (s_seq (s_fld (tb 50 4) (e_var 1) (e_var 0))
    (s_fld (tb 50 5) (e_var 2) (e_var 0))))) s_skip)
noncomputable def m_Grown_turn_to : List VD → Mem → Res VD := fnM 3 b_Grown_turn_to
noncomputable def b_Grown_put_all : Sx :=
    (s_seq (s_for (i_enumA (a_cons (e_var 1) a_nil)) (g_tup 2 (g_cons (g_name 2) (g_cons (g_name 3) g_nil))) (s_seq (s_if (e_orT (e_notT (e_truth (e_isi .tuple (e_var 3)))) (e_asB (e_op f_ne (e_bi f_len (a_cons (e_var 3) a_nil)) (e_c (.int 2))))) s_fail s_skip)
    (s_if (e_orT (e_notT (e_truth (e_call 3 m_is_number (a_cons (e_op f_ix (e_var 3) (e_c (.int 0))) (a_cons (e_c (.int 0)) (a_cons (e_c (.int 99)) a_nil)))))) (e_notT (e_truth (e_call 2 m_is_one (a_cons (e_op f_ix (e_var 3) (e_c (.int 1))) (a_cons (e_fld (tb 0 1) (e_fld (tb 50 0) (e_var 0))) a_nil)))))) s_fail s_skip)))
    (s_seq (s_tupV 4 (a_cons (e_fld (tb 50 4) (e_var 0)) (a_cons (e_fld (tb 50 5) (e_var 0)) (a_cons (e_lstO a_nil) (a_cons (e_c (.bl false)) a_nil)))) (g_cons (g_name 4) (g_cons (g_name 5) (g_cons (g_name 6) (g_cons (g_name 7) g_nil)))))
    (s_seq (s_fld (tb 50 2) (e_c (.bl true)) (e_var 0))
    (s_seq (s_tryF (s_seq (s_for (i_any (e_var 1)) (g_name 3) (s_expr (e_app (e_var 6) (e_meth 50 (ar 2 m_Grown_put_in) (e_var 0) (a_cons (e_var 3) a_nil)))))
    (s_asg (e_c (.bl true)) (g_name 7)))
    (s_seq (s_par 8 9 (a_cons (e_fld (tb 50 4) (e_var 0)) (a_cons (e_fld (tb 50 5) (e_var 0)) a_nil)))
    (s_seq (s_asgA 2 (a_cons (e_var 4) (a_cons (e_var 5) a_nil)) (ga_fld (tb 50 4) (e_var 0) (ga_fld (tb 50 5) (e_var 0) ga_nil)))
    (s_fld (tb 50 2) (e_c (.bl false)) (e_var 0)))))
    (s_seq (s_if (e_truth (e_var 7)) (s_expr (e_meth 50 (ar 3 m_Grown_turn_to) (e_var 0) (a_cons (e_var 8) (a_cons (e_var 9) a_nil)))) s_skip)
    (s_frz 6 (s_ret (e_var 6))))))))
noncomputable def m_Grown_put_all : List VD → Mem → Res VD := fnM 10 b_Grown_put_all
noncomputable def p_Grown_put_all : List VD → Mem → Res VD := arS 1 m_Grown_put_all
noncomputable def b_Grown_put : Sx :=
    (s_seq (s_if (e_notT (e_truth (e_call 3 m_is_number (a_cons (e_var 1) (a_cons (e_c (.int 0)) (a_cons (e_bi f_len (a_cons (e_fld (tb 50 4) (e_var 0)) a_nil)) a_nil)))))) s_fail s_skip)
    (s_seq (s_if (e_notT (e_truth (e_call 2 m_is_one (a_cons (e_var 2) (a_cons (e_fld (tb 0 1) (e_fld (tb 50 0) (e_var 0))) a_nil))))) s_fail s_skip)
    (s_ret (e_op f_ix (e_meth 50 p_Grown_put_all (e_var 0) (a_cons (e_tup (a_cons (e_var 1) (a_cons (e_var 2) a_nil))) a_nil)) (e_c (.int 0))))))
noncomputable def m_Grown_put : List VD → Mem → Res VD := fnM 3 b_Grown_put
noncomputable def b_lowered : Sx :=
    (s_ret (e_if (e_andT (e_asB (e_op (f_is true) (e_var 0) (e_c .non))) (e_asB (e_op f_gt (e_var 0) (e_var 1)))) (e_op f_sub (e_var 0) (e_c (.int 1))) (e_var 0)))
noncomputable def m_lowered : List VD → Mem → Res VD := fnM 2 b_lowered
noncomputable def b_without_birth : Sx :=
    (s_seq (s_asg (e_comp [5, 6, 7] (i_any (e_var 0)) (g_tup 3 (g_cons (g_name 5) (g_cons (g_name 6) (g_cons (g_name 7) g_nil)))) (e_asB (e_op f_ne (e_var 6) (e_var 2))) (e_tup (a_cons (e_var 5) (a_cons (e_call 2 m_lowered (a_cons (e_var 6) (a_cons (e_var 2) a_nil))) (a_cons (e_var 7) a_nil))))) (g_name 3))
    (s_seq (s_asg (e_comp [8, 9, 10, 11] (i_any (e_var 1)) (g_tup 4 (g_cons (g_name 8) (g_cons (g_name 9) (g_cons (g_name 10) (g_cons (g_name 11) g_nil))))) e_yes (e_tup (a_cons (e_var 8) (a_cons (e_var 9) (a_cons (e_call 2 m_lowered (a_cons (e_var 10) (a_cons (e_var 2) a_nil))) (a_cons (e_var 11) a_nil)))))) (g_name 4))
    (s_ret (e_tup (a_cons (e_var 3) (a_cons (e_comp [7, 12] (i_enumA (a_cons (e_var 4) a_nil)) (g_tup 2 (g_cons (g_name 7) (g_cons (g_name 12) g_nil))) (e_asB (e_op f_ne (e_var 7) (e_var 2))) (e_var 12)) a_nil))))))
noncomputable def m_without_birth : List VD → Mem → Res VD := fnM 13 b_without_birth
noncomputable def b_Grown_take : Sx :=
    (s_seq (s_if (e_notT (e_truth (e_call 3 m_is_number (a_cons (e_var 1) (a_cons (e_c (.int 0)) (a_cons (e_op f_sub (e_bi f_len (a_cons (e_fld (tb 50 4) (e_var 0)) a_nil)) (e_c (.int 1))) a_nil)))))) s_fail s_skip)
    (s_seq (s_asg (e_op f_ix (e_op f_ix (e_fld (tb 50 4) (e_var 0)) (e_var 1)) (e_c (.int 1))) (g_name 2))
    (s_seq (s_if (e_asB (e_op (f_is false) (e_var 2) (e_c .non))) s_fail s_skip)
    (s_seq (s_if (e_asB (e_op f_in (e_var 2) (e_comp [6] (i_any (e_fld (tb 50 5) (e_var 0))) (g_name 6) e_yes (e_op f_ix (e_var 6) (e_c (.int 2)))))) s_fail s_skip)
    (s_seq (s_asg (e_op f_ix (e_op f_ix (e_fld (tb 50 5) (e_var 0)) (e_var 2)) (e_c (.int 1))) (g_name 3))
    (s_seq (s_asg (e_call 3 m_without_birth (a_cons (e_fld (tb 50 4) (e_var 0)) (a_cons (e_fld (tb 50 5) (e_var 0)) (a_cons (e_var 2) a_nil)))) (g_tup 2 (g_cons (g_name 4) (g_cons (g_name 5) g_nil))))
    (s_seq (s_expr (e_meth 50 (ar 3 m_Grown_turn_to) (e_var 0) (a_cons (e_var 4) (a_cons (e_var 5) a_nil))))
    (s_ret (e_var 3)))))))))
noncomputable def m_Grown_take : List VD → Mem → Res VD := fnM 7 b_Grown_take
noncomputable def b__law_take_due : Sx :=
    (s_seq (s_if (e_orT (e_truth (e_isi .bool (e_var 1))) (e_orT (e_notT (e_truth (e_isi .int (e_var 1)))) (e_notT (e_asB (e_chain f_le f_lt (e_c (.int 0)) (e_var 1) (e_bi f_len (a_cons (e_op f_ix (e_var 0) (e_c (.int 0))) a_nil))))))) (s_ret (e_tup (a_cons (e_c (.str [85, 110, 107, 110, 111, 119, 110, 76, 101, 116, 116, 101, 114])) (a_cons (e_var 1) a_nil)))) s_skip)
    (s_seq (s_asg (e_op f_ix (e_op f_ix (e_op f_ix (e_var 0) (e_c (.int 0))) (e_var 1)) (e_c (.int 1))) (g_name 2))
    (s_seq (s_if (e_asB (e_op f_lt (e_var 2) (e_c (.int 0)))) (s_ret (e_tup (a_cons (e_c (.str [78, 111, 116, 66, 111, 114, 110])) (a_cons (e_var 1) a_nil)))) s_skip)
    (s_ret (e_if (e_asB (e_op f_in (e_var 2) (e_comp [3] (i_any (e_op f_ix (e_var 0) (e_c (.int 1)))) (g_name 3) e_yes (e_op f_ix (e_var 3) (e_c (.int 2)))))) (e_tup (a_cons (e_c (.str [78, 111, 116, 70, 114, 101, 101])) (a_cons (e_var 1) a_nil))) (e_tup (a_cons (e_c (.str [])) (a_cons (e_op f_ix (e_op f_ix (e_op f_ix (e_var 0) (e_c (.int 1))) (e_var 2)) (e_c (.int 1))) a_nil))))))))
noncomputable def m__law_take_due : List VD → Mem → Res VD := fnM 4 b__law_take_due
noncomputable def b__law_less : Sx :=
    (s_ret (e_if (e_asB (e_op f_gt (e_var 0) (e_var 1))) (e_op f_sub (e_var 0) (e_c (.int 1))) (e_var 0)))
noncomputable def m__law_less : List VD → Mem → Res VD := fnM 2 b__law_less
noncomputable def b__law_taken : Sx :=
    (s_seq (s_asg (e_comp [4] (i_any (e_op f_ix (e_var 0) (e_c (.int 0)))) (g_name 4) (e_asB (e_op f_ne (e_op f_ix (e_var 4) (e_c (.int 1))) (e_var 1))) (e_tup (a_cons (e_op f_ix (e_var 4) (e_c (.int 0))) (a_cons (e_call 2 m__law_less (a_cons (e_op f_ix (e_var 4) (e_c (.int 1))) (a_cons (e_var 1) a_nil))) (a_cons (e_op f_ix (e_var 4) (e_c (.int 2))) a_nil))))) (g_name 2))
    (s_seq (s_asg (e_comp [5] (i_any (e_op f_ix (e_var 0) (e_c (.int 1)))) (g_name 5) e_yes (e_tup (a_cons (e_op f_ix (e_var 5) (e_c (.int 0))) (a_cons (e_op f_ix (e_var 5) (e_c (.int 1))) (a_cons (e_call 2 m__law_less (a_cons (e_op f_ix (e_var 5) (e_c (.int 2))) (a_cons (e_var 1) a_nil))) (a_cons (e_op f_ix (e_var 5) (e_c (.int 3))) a_nil)))))) (g_name 3))
    (s_ret (e_tup (a_cons (e_var 2) (a_cons (e_op f_add (e_sl (e_var 3) o_none (o_some (e_var 1))) (e_sl (e_var 3) (o_some (e_op f_add (e_var 1) (e_c (.int 1)))) o_none)) a_nil))))))
noncomputable def m__law_taken : List VD → Mem → Res VD := fnM 6 b__law_taken
noncomputable def b_Grown_births : Sx :=
    (s_ret (e_bi f_list (a_cons (e_fld (tb 50 5) (e_var 0)) a_nil)))
noncomputable def m_Grown_births : List VD → Mem → Res VD := fnM 1 b_Grown_births
end G
namespace G
open PySem PySem.Spec PyProof.Rows L2
theorem nrfl {α : Sort _} {a b : α} (h : a = b) : a = b := h
def opK (f : VD → VD → Mem → Res VD) (r : Res VD) (b : Mx VD) (ρ : Env) : Res VD := r.bind fun x M1 => (b ρ M1).bind fun y M2 => f x y M2
def opK2 (f : VD → VD → Mem → Res VD) (x : VD) (r : Res VD) : Res VD := r.bind fun y M2 => f x y M2
@[simp] theorem e_op_eq {f a b ρ M} : e_op f a b ρ M = opK f (a ρ M) b ρ := nrfl rfl
@[simp] theorem opK_ok {f x M b ρ} : opK f (.ok x M) b ρ = opK2 f x (b ρ M) := nrfl rfl
@[simp] theorem opK2_ok {f x y M} : opK2 f x (.ok y M) = f x y M := nrfl rfl
def varK (o : Option (Option VD)) (M : Mem) : Res VD := match o with
  | some (some d) => .ok d M
  | _ => .fail
@[simp] theorem e_var_eq {i : Nat} {ρ : Env} {M} : e_var i ρ M = varK (ρ[i]?) M := nrfl rfl
@[simp] theorem varK_ok {d M} : varK (some (some d)) M = .ok d M := nrfl rfl
@[simp] theorem e_c_eq {d ρ M} : e_c d ρ M = .ok (.d d) M := nrfl rfl
def asBK (r : Res VD) : Res Bool := r.bind asB
@[simp] theorem e_asB_eq {m ρ M} : e_asB m ρ M = asBK (m ρ M) := nrfl rfl
@[simp] theorem asBK_ok {b M} : asBK (.ok (.d (.bl b)) M) = .ok b M := nrfl rfl
def truthK (r : Res VD) : Res Bool := r.bind fun v M1 => match truth M1 v with
  | some b => .ok b M1
  | none => .fail
@[simp] theorem e_truth_eq {m ρ M} : e_truth m ρ M = truthK (m ρ M) := nrfl rfl
@[simp] theorem truthK_bl {b M} : truthK (.ok (.d (.bl b)) M) = .ok b M := nrfl rfl
@[simp] theorem truthK_non {M} : truthK (.ok (.d .non) M) = .ok false M := nrfl rfl
@[simp] theorem truthK_int {i M} : truthK (.ok (.d (.int i)) M) = .ok (i != 0) M := nrfl rfl
def andTK (r : Res Bool) (b : Mx Bool) (ρ : Env) : Res Bool := r.bind fun c M1 => if c then b ρ M1 else .ok false M1
def orTK (r : Res Bool) (b : Mx Bool) (ρ : Env) : Res Bool := r.bind fun c M1 => if c then .ok true M1 else b ρ M1
def notTK (r : Res Bool) : Res Bool := r.bind fun c M1 => .ok (!c) M1
@[simp] theorem e_andT_eq {a b ρ M} : e_andT a b ρ M = andTK (a ρ M) b ρ := nrfl rfl
@[simp] theorem e_orT_eq {a b ρ M} : e_orT a b ρ M = orTK (a ρ M) b ρ := nrfl rfl
@[simp] theorem e_notT_eq {a ρ M} : e_notT a ρ M = notTK (a ρ M) := nrfl rfl
@[simp] theorem andTK_t {b ρ M} : andTK (.ok true M) b ρ = b ρ M := nrfl rfl
@[simp] theorem andTK_f {b ρ M} : andTK (.ok false M) b ρ = .ok false M := nrfl rfl
@[simp] theorem orTK_t {b ρ M} : orTK (.ok true M) b ρ = .ok true M := nrfl rfl
@[simp] theorem orTK_f {b ρ M} : orTK (.ok false M) b ρ = b ρ M := nrfl rfl
@[simp] theorem notTK_ok {c M} : notTK (.ok c M) = .ok (!c) M := nrfl rfl
def andK (r : Res VD) (b : Mx VD) (ρ : Env) : Res VD := r.bind fun v M1 => (asB v M1).bind fun c M2 => if c then b ρ M2 else .ok (.d (.bl false)) M2
def orK (r : Res VD) (b : Mx VD) (ρ : Env) : Res VD := r.bind fun v M1 => (asB v M1).bind fun c M2 => if c then .ok (.d (.bl true)) M2 else b ρ M2
def notK (r : Res VD) : Res VD := r.bind fun v M1 => (asB v M1).bind fun c M2 => .ok (.d (.bl (!c))) M2
@[simp] theorem e_and_eq {a b ρ M} : e_and a b ρ M = andK (a ρ M) b ρ := nrfl rfl
@[simp] theorem e_or_eq {a b ρ M} : e_or a b ρ M = orK (a ρ M) b ρ := nrfl rfl
@[simp] theorem e_not_eq {a ρ M} : e_not a ρ M = notK (a ρ M) := nrfl rfl
@[simp] theorem andK_t {b ρ M} : andK (.ok (.d (.bl true)) M) b ρ = b ρ M := nrfl rfl
@[simp] theorem andK_f {b ρ M} : andK (.ok (.d (.bl false)) M) b ρ = .ok (.d (.bl false)) M := nrfl rfl
@[simp] theorem orK_t {b ρ M} : orK (.ok (.d (.bl true)) M) b ρ = .ok (.d (.bl true)) M := nrfl rfl
@[simp] theorem orK_f {b ρ M} : orK (.ok (.d (.bl false)) M) b ρ = b ρ M := nrfl rfl
@[simp] theorem notK_ok {c M} : notK (.ok (.d (.bl c)) M) = .ok (.d (.bl (!c))) M := nrfl rfl
def ifK (r : Res Bool) (a b : Mx VD) (ρ : Env) : Res VD := r.bind fun c M1 => if c then a ρ M1 else b ρ M1
@[simp] theorem e_if_eq {t a b ρ M} : e_if t a b ρ M = ifK (t ρ M) a b ρ := nrfl rfl
@[simp] theorem ifK_t {a b ρ M} : ifK (.ok true M) a b ρ = a ρ M := nrfl rfl
@[simp] theorem ifK_f {a b ρ M} : ifK (.ok false M) a b ρ = b ρ M := nrfl rfl
def chK (f g : VD → VD → Mem → Res VD) (r : Res VD) (b c : Mx VD) (ρ : Env) : Res VD := r.bind fun x M1 => (b ρ M1).bind fun y M2 => (f x y M2).bind fun z M3 => (asB z M3).bind fun q M4 => if q then (c ρ M4).bind fun w M5 => g y w M5 else .ok (.d (.bl false)) M4
def chK2 (f g : VD → VD → Mem → Res VD) (x : VD) (r : Res VD) (c : Mx VD) (ρ : Env) : Res VD := r.bind fun y M2 => (f x y M2).bind fun z M3 => (asB z M3).bind fun q M4 => if q then (c ρ M4).bind fun w M5 => g y w M5 else .ok (.d (.bl false)) M4
def chK3 (g : VD → VD → Mem → Res VD) (y : VD) (r : Res VD) (c : Mx VD) (ρ : Env) : Res VD := r.bind fun z M3 => (asB z M3).bind fun q M4 => if q then (c ρ M4).bind fun w M5 => g y w M5 else .ok (.d (.bl false)) M4
@[simp] theorem e_chain_eq {f g a b c ρ M} : e_chain f g a b c ρ M = chK f g (a ρ M) b c ρ := nrfl rfl
@[simp] theorem chK_ok {f g x M b c ρ} : chK f g (.ok x M) b c ρ = chK2 f g x (b ρ M) c ρ := nrfl rfl
@[simp] theorem chK2_ok {f g x y M c ρ} : chK2 f g x (.ok y M) c ρ = chK3 g y (f x y M) c ρ := nrfl rfl
@[simp] theorem chK3_t {g y M c ρ} : chK3 g y (.ok (.d (.bl true)) M) c ρ = opK2 g y (c ρ M) := nrfl rfl
@[simp] theorem chK3_f {g y M c ρ} : chK3 g y (.ok (.d (.bl false)) M) c ρ = .ok (.d (.bl false)) M := nrfl rfl
def consK (r : Res VD) (t : Mx (List VD)) (ρ : Env) : Res (List VD) := r.bind fun v M1 => (t ρ M1).bind fun vs M2 => .ok (v :: vs) M2
def consK2 (v : VD) (r : Res (List VD)) : Res (List VD) := r.bind fun vs M2 => .ok (v :: vs) M2
@[simp] theorem a_nil_eq {ρ M} : a_nil ρ M = .ok [] M := nrfl rfl
@[simp] theorem a_cons_eq {a r ρ M} : a_cons a r ρ M = consK (a ρ M) r ρ := nrfl rfl
@[simp] theorem consK_ok {v M t ρ} : consK (.ok v M) t ρ = consK2 v (t ρ M) := nrfl rfl
@[simp] theorem consK2_ok {v vs M} : consK2 v (.ok vs M) = .ok (v :: vs) M := nrfl rfl
def lstK (r : Res (List VD)) : Res VD := r.bind mkL
def tupK (r : Res (List VD)) : Res VD := r.bind mkT
@[simp] theorem e_lst_eq {ms ρ M} : e_lst ms ρ M = lstK (ms ρ M) := nrfl rfl
@[simp] theorem e_tup_eq {ms ρ M} : e_tup ms ρ M = tupK (ms ρ M) := nrfl rfl
@[simp] theorem dats_nil : dats [] = some [] := nrfl rfl
@[simp] theorem dats_cons {x r} : dats (.d x :: r) = (dats r).map (x :: ·) := nrfl rfl
@[simp] theorem lstK_ok {vs M} : lstK (.ok vs M) = match dats vs with
  | some ds => if ds.length ≤ lim then .ok (.d (.lst ds)) M else .fail
  | none => .fail := nrfl rfl
@[simp] theorem tupK_ok {vs M} : tupK (.ok vs M) = match dats vs with
  | some ds => if ds.length ≤ lim then .ok (.d (.tup ds)) M else .fail
  | none => .fail := nrfl rfl
def lstOK (r : Res (List VD)) : Res VD := r.bind fun vs M1 => match dats vs with
  | some ds => if ds.length ≤ lim then .ok (.adr M1.length) (M1 ++ [.lst ds]) else .fail
  | none => .fail
@[simp] theorem e_lstO_eq {ms ρ M} : e_lstO ms ρ M = lstOK (ms ρ M) := nrfl rfl
@[simp] theorem lstOK_ok {vs M} : lstOK (.ok vs M) = match dats vs with
  | some ds => if ds.length ≤ lim then .ok (.adr M.length) (M ++ [.lst ds]) else .fail
  | none => .fail := nrfl rfl
def callK (n : Nat) (m : List VD → Mem → Res VD) (r : Res (List VD)) : Res VD := r.bind fun vs M1 => if vs.length = n then m vs M1 else .fail
@[simp] theorem e_call_eq {n m ms ρ M} : e_call n m ms ρ M = callK n m (ms ρ M) := nrfl rfl
@[simp] theorem callK_ok {n m vs M} (h : vs.length = n) : callK n m (.ok vs M) = m vs M := by
  unfold callK Res.bind
  dsimp only
  rw [if_pos h]
def biK (f : List VD → Mem → Res VD) (r : Res (List VD)) : Res VD := r.bind f
@[simp] theorem e_bi_eq {f ms ρ M} : e_bi f ms ρ M = biK f (ms ρ M) := nrfl rfl
@[simp] theorem biK_ok {f vs M} : biK f (.ok vs M) = f vs M := nrfl rfl
@[simp] theorem f_add_i {i j M} : f_add (.d (.int i)) (.d (.int j)) M = .ok (.d (.int (i + j))) M := nrfl rfl
@[simp] theorem f_add_s {s t M} : f_add (.d (.str s)) (.d (.str t)) M = if s.length + t.length ≤ lim then .ok (.d (.str (s ++ t))) M else .fail := nrfl rfl
@[simp] theorem f_add_l {s t M} : f_add (.d (.lst s)) (.d (.lst t)) M = if s.length + t.length ≤ lim then .ok (.d (.lst (s ++ t))) M else .fail := nrfl rfl
@[simp] theorem f_add_t {s t M} : f_add (.d (.tup s)) (.d (.tup t)) M = if s.length + t.length ≤ lim then .ok (.d (.tup (s ++ t))) M else .fail := nrfl rfl
@[simp] theorem f_sub_i {i j M} : f_sub (.d (.int i)) (.d (.int j)) M = .ok (.d (.int (i - j))) M := nrfl rfl
@[simp] theorem f_mod_i {i j M} : f_mod (.d (.int i)) (.d (.int j)) M = gi (0 < j) (.ok (.d (.int (i % j))) M) .fail := nrfl rfl
@[simp] theorem f_fdiv_i {i j M} : f_fdiv (.d (.int i)) (.d (.int j)) M = gi (0 < j ∧ j < 1073741824) (.ok (.d (.int (i / j))) M) .fail := nrfl rfl
@[simp] theorem f_mul_i {i j M} : f_mul (.d (.int i)) (.d (.int j)) M = gi ((-(2 ^ 64) < i ∧ i < 2 ^ 64) ∨ (-(2 ^ 64) < j ∧ j < 2 ^ 64)) (.ok (.d (.int (i * j))) M) .fail := nrfl rfl
@[simp] theorem f_mul_l {s j M} : f_mul (.d (.lst s)) (.d (.int j)) M = gi (j < 2 ^ 60 ∧ -(2 ^ 60) < j ∧ s.length * j.toNat ≤ lim) (.ok (.d (.lst (List.replicate j.toNat s).flatten)) M) .fail := nrfl rfl
@[simp] theorem f_pow_i {i j M} : f_pow (.d (.int i)) (.d (.int j)) M = gi (0 ≤ j ∧ j ≤ 1000000 ∧ i.natAbs < 2 ^ 64) (.ok (.d (.int (i ^ j.toNat))) M) .fail := nrfl rfl
@[simp] theorem f_lt_i {i j M} : f_lt (.d (.int i)) (.d (.int j)) M = .ok (.d (.bl (decide (i < j)))) M := nrfl rfl
@[simp] theorem f_le_i {i j M} : f_le (.d (.int i)) (.d (.int j)) M = .ok (.d (.bl (decide (i ≤ j)))) M := nrfl rfl
@[simp] theorem f_gt_i {i j M} : f_gt (.d (.int i)) (.d (.int j)) M = .ok (.d (.bl (decide (j < i)))) M := nrfl rfl
@[simp] theorem f_ge_i {i j M} : f_ge (.d (.int i)) (.d (.int j)) M = .ok (.d (.bl (decide (j ≤ i)))) M := nrfl rfl
@[simp] theorem f_lt_s {s t M} : f_lt (.d (.str s)) (.d (.str t)) M = .ok (.d (.bl (ltL s t))) M := nrfl rfl
@[simp] theorem f_le_s {s t M} : f_le (.d (.str s)) (.d (.str t)) M = .ok (.d (.bl (!ltL t s))) M := nrfl rfl
@[simp] theorem f_gt_s {s t M} : f_gt (.d (.str s)) (.d (.str t)) M = .ok (.d (.bl (ltL t s))) M := nrfl rfl
@[simp] theorem f_ge_s {s t M} : f_ge (.d (.str s)) (.d (.str t)) M = .ok (.d (.bl (!ltL s t))) M := nrfl rfl
@[simp] theorem f_eq_d {x y : D} {M} : f_eq (.d x) (.d y) M = if x.pl 20 && y.pl 20 then .ok (.d (.bl (D.eqv x y))) M else .fail := nrfl rfl
@[simp] theorem f_ne_d {x y : D} {M} : f_ne (.d x) (.d y) M = if x.pl 20 && y.pl 20 then .ok (.d (.bl (!D.eqv x y))) M else .fail := nrfl rfl
@[simp] theorem f_in_c {c t M} : f_in (.d (.str [c])) (.d (.str t)) M = .ok (.d (.bl (decide (c ∈ t)))) M := nrfl rfl
@[simp] theorem f_ni_c {c t M} : f_ni (.d (.str [c])) (.d (.str t)) M = .ok (.d (.bl (!decide (c ∈ t)))) M := nrfl rfl
theorem inn_l {neg} {x : D} {ys M} : f_inn neg (.d x) (.d (.lst ys)) M = if x.pl 20 && D.plA 19 ys then .ok (.d (.bl (if neg then !ys.any fun z => D.eqv z x else ys.any fun z => D.eqv z x))) M else .fail := by
  cases x <;> first | rfl | (rename_i s; cases s <;> first | rfl | (rename_i t; cases t <;> rfl))
@[simp] theorem f_in_l {x : D} {ys M} : f_in (.d x) (.d (.lst ys)) M = if x.pl 20 && D.plA 19 ys then .ok (.d (.bl (ys.any fun z => D.eqv z x))) M else .fail := inn_l
@[simp] theorem f_ni_l {x : D} {ys M} : f_ni (.d x) (.d (.lst ys)) M = if x.pl 20 && D.plA 19 ys then .ok (.d (.bl (!ys.any fun z => D.eqv z x))) M else .fail := inn_l
@[simp] theorem f_is_nn {neg M} : f_is neg (.d .non) (.d .non) M = .ok (.d (.bl (!neg))) M := nrfl rfl
@[simp] theorem f_is_a {neg i M} : f_is neg (.adr i) (.d .non) M = .ok (.d (.bl neg)) M := nrfl rfl
@[simp] theorem f_is_b {neg b M} : f_is neg (.d (.bl b)) (.d .non) M = .ok (.d (.bl neg)) M := nrfl rfl
@[simp] theorem f_is_i {neg b M} : f_is neg (.d (.int b)) (.d .non) M = .ok (.d (.bl neg)) M := nrfl rfl
@[simp] theorem f_is_s {neg b M} : f_is neg (.d (.str b)) (.d .non) M = .ok (.d (.bl neg)) M := nrfl rfl
@[simp] theorem f_is_l {neg b M} : f_is neg (.d (.lst b)) (.d .non) M = .ok (.d (.bl neg)) M := nrfl rfl
@[simp] theorem f_is_t {neg b M} : f_is neg (.d (.tup b)) (.d .non) M = .ok (.d (.bl neg)) M := nrfl rfl
@[simp] theorem f_is_o {neg c b M} : f_is neg (.d (.obj c b)) (.d .non) M = .ok (.d (.bl neg)) M := nrfl rfl
@[simp] theorem pl_non {n} : D.pl n .non = true := by cases n <;> rfl
@[simp] theorem pl_bl {n b} : D.pl n (.bl b) = true := by cases n <;> rfl
@[simp] theorem pl_int {n b} : D.pl n (.int b) = true := by cases n <;> rfl
@[simp] theorem pl_str {n b} : D.pl n (.str b) = true := by cases n <;> rfl
@[simp] theorem pl_lst {n b} : D.pl (n + 1) (.lst b) = D.plA n b := nrfl rfl
@[simp] theorem pl_tup {n b} : D.pl (n + 1) (.tup b) = D.plA n b := nrfl rfl
@[simp] theorem plA_nil {n} : D.plA n [] = true := by cases n <;> rfl
@[simp] theorem plA_cons {n x xs} : D.plA n (x :: xs) = (D.pl n x && D.plA n xs) := by cases n <;> rfl
@[simp] theorem eqv_nn : D.eqv .non .non = true := nrfl rfl
@[simp] theorem eqv_bb {a b} : D.eqv (.bl a) (.bl b) = (a == b) := nrfl rfl
@[simp] theorem eqv_ii {a b} : D.eqv (.int a) (.int b) = (a == b) := nrfl rfl
@[simp] theorem eqv_ss {a b} : D.eqv (.str a) (.str b) = (a == b) := nrfl rfl
@[simp] theorem eqv_ll {a b} : D.eqv (.lst a) (.lst b) = D.eqvA a b := nrfl rfl
@[simp] theorem eqv_tt {a b} : D.eqv (.tup a) (.tup b) = D.eqvA a b := nrfl rfl
@[simp] theorem eqvA_nn : D.eqvA [] [] = true := nrfl rfl
@[simp] theorem eqvA_cc {x xs y ys} : D.eqvA (x :: xs) (y :: ys) = (D.eqv x y && D.eqvA xs ys) := nrfl rfl
@[simp] theorem eqvA_nc {y ys} : D.eqvA [] (y :: ys) = false := nrfl rfl
@[simp] theorem eqvA_cn {y ys} : D.eqvA (y :: ys) [] = false := nrfl rfl
@[simp] theorem f_len_s {s M} : f_len [.d (.str s)] M = if s.length ≤ lim then .ok (.d (.int s.length)) M else .fail := by
  unfold f_len lenOf
  dsimp only
  split
  · rename_i n h
    split at h
    · rename_i hl
      cases h
      rw [if_pos hl]
    · cases h
  · rename_i h
    split at h
    · cases h
    · rename_i hl
      rw [if_neg hl]
@[simp] theorem f_len_l {s M} : f_len [.d (.lst s)] M = .ok (.d (.int s.length)) M := nrfl rfl
@[simp] theorem f_len_t {s M} : f_len [.d (.tup s)] M = .ok (.d (.int s.length)) M := nrfl rfl
@[simp] theorem f_int_i {i M} : f_int [.d (.int i)] M = .ok (.d (.int i)) M := nrfl rfl
@[simp] theorem f_int_b {i M} : f_int [.d (.bl i)] M = .ok (.d (.int (if i then 1 else 0))) M := nrfl rfl
@[simp] theorem f_abs_i {i M} : f_abs [.d (.int i)] M = .ok (.d (.int (if i < 0 then -i else i))) M := nrfl rfl
@[simp] theorem f_list_l {s M} : f_list [.d (.lst s)] M = .ok (.d (.lst s)) M := nrfl rfl
@[simp] theorem f_list_s {s M} : f_list [.d (.str s)] M = if s.length ≤ lim then .ok (.d (.lst (s.map fun c => .str [c]))) M else .fail := nrfl rfl
@[simp] theorem f_list_t {s M} : f_list [.d (.tup s)] M = .ok (.d (.lst s)) M := nrfl rfl
def blK (g : List Bool → Bool) (o : Option (List Bool)) (M : Mem) : Res VD := match o with
  | some bs => .ok (.d (.bl (g bs))) M
  | none => .fail
@[simp] theorem f_bls_l {g s M} : f_bls g [.d (.lst s)] M = blK g (blL s) M := nrfl rfl
@[simp] theorem blK_ok {g bs M} : blK g (some bs) M = .ok (.d (.bl (g bs))) M := nrfl rfl
@[simp] theorem blL_nil : blL [] = some [] := nrfl rfl
@[simp] theorem blL_cons {b r} : blL (.bl b :: r) = (blL r).map (b :: ·) := nrfl rfl
@[simp] theorem blL_map {α : Type} (g : α → Bool) : ∀ l : List α, blL (l.map fun x => .bl (g x)) = some (l.map g)
  | [] => rfl
  | x :: l => by simp [blL_map g l]
@[simp] theorem stL_nil : stL [] = some [] := nrfl rfl
@[simp] theorem stL_cons {b r} : stL (.str b :: r) = (stL r).map (b :: ·) := nrfl rfl
@[simp] theorem stL_map {α : Type} (g : α → List Nat) : ∀ l : List α, stL (l.map fun x => .str (g x)) = some (l.map g)
  | [] => rfl
  | x :: l => by simp [stL_map g l]
@[simp] theorem inL_nil : inL [] = some [] := nrfl rfl
@[simp] theorem inL_cons {b r} : inL (.int b :: r) = (inL r).map (b :: ·) := nrfl rfl
@[simp] theorem inL_map {α : Type} (g : α → Int) : ∀ l : List α, inL (l.map fun x => .int (g x)) = some (l.map g)
  | [] => rfl
  | x :: l => by simp [inL_map g l]
def ixK (o : Option D) (M : Mem) : Res VD := match o with
  | some d => .ok (.d d) M
  | none => .fail
@[simp] theorem ixK_ok {d M} : ixK (some d) M = .ok (.d d) M := nrfl rfl
@[simp] theorem f_ix_l {s i M} : f_ix (.d (.lst s)) (.d (.int i)) M = ixK (L2.atI s i) M := nrfl rfl
@[simp] theorem f_ix_t {s i M} : f_ix (.d (.tup s)) (.d (.int i)) M = ixK (L2.atI s i) M := nrfl rfl
def ixKs (o : Option Nat) (M : Mem) : Res VD := match o with
  | some c => .ok (.d (.str [c])) M
  | none => .fail
@[simp] theorem ixKs_ok {d M} : ixKs (some d) M = .ok (.d (.str [d])) M := nrfl rfl
@[simp] theorem f_ix_s {s i M} : f_ix (.d (.str s)) (.d (.int i)) M = if s.length ≤ lim then ixKs (L2.atI s i) M else .fail := nrfl rfl
def ixKa (o : Option MO) (i : Int) (M : Mem) : Res VD := match o with
  | some (.lst ds) => ixK (L2.atI ds i) M
  | _ => .fail
@[simp] theorem f_ix_a {j : Nat} {i : Int} {M : Mem} : f_ix (.adr j) (.d (.int i)) M = ixKa (M[j]?) i M := by
  unfold f_ix seqOf ixKa ixK
  dsimp only
  cases M[j]? with
  | none => rfl
  | some m => cases m <;> rfl
@[simp] theorem ixKa_ok {ds i M} : ixKa (some (.lst ds)) i M = ixK (L2.atI ds i) M := nrfl rfl
@[simp] theorem atI_0 {α : Type} {a : α} {l : List α} : L2.atI (a :: l) 0 = some a := by
  have e : (a :: l).length = l.length + 1 := nrfl rfl
  unfold L2.atI ixN
  rw [e, if_pos (by omega), if_pos (by omega)]
  rfl
theorem atI_nat' {α : Type} {l : List α} {n : Nat} {a : α} (h : l[n]? = some a) : L2.atI l (n : Int) = some a := by
  have hn := (List.getElem?_eq_some_iff.mp h).1
  unfold L2.atI ixN
  rw [if_pos (by omega), if_pos (by omega)]
  simpa using h
@[simp] theorem atI_1 {α : Type} {a0 a1 : α} {l : List α} : L2.atI (a0 :: a1 :: l) 1 = some a1 := atI_nat' (n := 1) rfl
@[simp] theorem atI_2 {α : Type} {a0 a1 a2 : α} {l : List α} : L2.atI (a0 :: a1 :: a2 :: l) 2 = some a2 := atI_nat' (n := 2) rfl
@[simp] theorem atI_3 {α : Type} {a0 a1 a2 a3 : α} {l : List α} : L2.atI (a0 :: a1 :: a2 :: a3 :: l) 3 = some a3 := atI_nat' (n := 3) rfl
@[simp] theorem atI_4 {α : Type} {a0 a1 a2 a3 a4 : α} {l : List α} : L2.atI (a0 :: a1 :: a2 :: a3 :: a4 :: l) 4 = some a4 := atI_nat' (n := 4) rfl
@[simp] theorem atI_5 {α : Type} {a0 a1 a2 a3 a4 a5 : α} {l : List α} : L2.atI (a0 :: a1 :: a2 :: a3 :: a4 :: a5 :: l) 5 = some a5 := atI_nat' (n := 5) rfl
@[simp] theorem atI_6 {α : Type} {a0 a1 a2 a3 a4 a5 a6 : α} {l : List α} : L2.atI (a0 :: a1 :: a2 :: a3 :: a4 :: a5 :: a6 :: l) 6 = some a6 := atI_nat' (n := 6) rfl
@[simp] theorem atI_7 {α : Type} {a0 a1 a2 a3 a4 a5 a6 a7 : α} {l : List α} : L2.atI (a0 :: a1 :: a2 :: a3 :: a4 :: a5 :: a6 :: a7 :: l) 7 = some a7 := atI_nat' (n := 7) rfl
@[simp] theorem atI_8 {α : Type} {a0 a1 a2 a3 a4 a5 a6 a7 a8 : α} {l : List α} : L2.atI (a0 :: a1 :: a2 :: a3 :: a4 :: a5 :: a6 :: a7 :: a8 :: l) 8 = some a8 := atI_nat' (n := 8) rfl
@[simp] theorem atI_9 {α : Type} {a0 a1 a2 a3 a4 a5 a6 a7 a8 a9 : α} {l : List α} : L2.atI (a0 :: a1 :: a2 :: a3 :: a4 :: a5 :: a6 :: a7 :: a8 :: a9 :: l) 9 = some a9 := atI_nat' (n := 9) rfl
def isiK (b : BT) (r : Res VD) : Res VD := r.bind fun v M1 => match vtOf M1 v with
  | some t => .ok (.d (.bl (t.isA b))) M1
  | none => .fail
def isiK2 (b b2 : BT) (r : Res VD) : Res VD := r.bind fun v M1 => match vtOf M1 v with
  | some t => .ok (.d (.bl (t.isA b || t.isA b2))) M1
  | none => .fail
@[simp] theorem e_isi_eq {b m ρ M} : e_isi b m ρ M = isiK b (m ρ M) := nrfl rfl
@[simp] theorem e_isi2_eq {b b2 m ρ M} : e_isi2 b b2 m ρ M = isiK2 b b2 (m ρ M) := nrfl rfl
@[simp] theorem isiK_n {b M} : isiK b (.ok (.d .non) M) = .ok (.d (.bl (VT.none.isA b))) M := nrfl rfl
@[simp] theorem isiK_b {b x M} : isiK b (.ok (.d (.bl x)) M) = .ok (.d (.bl (VT.bool.isA b))) M := nrfl rfl
@[simp] theorem isiK_i {b x M} : isiK b (.ok (.d (.int x)) M) = .ok (.d (.bl (VT.int.isA b))) M := nrfl rfl
@[simp] theorem isiK_s {b x M} : isiK b (.ok (.d (.str x)) M) = .ok (.d (.bl (VT.str.isA b))) M := nrfl rfl
@[simp] theorem isiK_l {b x M} : isiK b (.ok (.d (.lst x)) M) = .ok (.d (.bl (VT.list.isA b))) M := nrfl rfl
@[simp] theorem isiK_t {b x M} : isiK b (.ok (.d (.tup x)) M) = .ok (.d (.bl (VT.tuple.isA b))) M := nrfl rfl
@[simp] theorem isiK2_n {b c M} : isiK2 b c (.ok (.d .non) M) = .ok (.d (.bl (VT.none.isA b || VT.none.isA c))) M := nrfl rfl
@[simp] theorem isiK2_b {b c x M} : isiK2 b c (.ok (.d (.bl x)) M) = .ok (.d (.bl (VT.bool.isA b || VT.bool.isA c))) M := nrfl rfl
@[simp] theorem isiK2_i {b c x M} : isiK2 b c (.ok (.d (.int x)) M) = .ok (.d (.bl (VT.int.isA b || VT.int.isA c))) M := nrfl rfl
@[simp] theorem isiK2_s {b c x M} : isiK2 b c (.ok (.d (.str x)) M) = .ok (.d (.bl (VT.str.isA b || VT.str.isA c))) M := nrfl rfl
@[simp] theorem isiK2_l {b c x M} : isiK2 b c (.ok (.d (.lst x)) M) = .ok (.d (.bl (VT.list.isA b || VT.list.isA c))) M := nrfl rfl
@[simp] theorem isiK2_t {b c x M} : isiK2 b c (.ok (.d (.tup x)) M) = .ok (.d (.bl (VT.tuple.isA b || VT.tuple.isA c))) M := nrfl rfl
@[simp] theorem isA_bool_int : VT.isA .bool .int = true := nrfl rfl
@[simp] theorem isA_bool_bool : VT.isA .bool .bool = true := nrfl rfl
@[simp] theorem isA_bool_str : VT.isA .bool .str = false := nrfl rfl
@[simp] theorem isA_bool_list : VT.isA .bool .list = false := nrfl rfl
@[simp] theorem isA_bool_tuple : VT.isA .bool .tuple = false := nrfl rfl
@[simp] theorem isA_int_int : VT.isA .int .int = true := nrfl rfl
@[simp] theorem isA_int_bool : VT.isA .int .bool = false := nrfl rfl
@[simp] theorem isA_int_str : VT.isA .int .str = false := nrfl rfl
@[simp] theorem isA_int_list : VT.isA .int .list = false := nrfl rfl
@[simp] theorem isA_int_tuple : VT.isA .int .tuple = false := nrfl rfl
@[simp] theorem isA_str_int : VT.isA .str .int = false := nrfl rfl
@[simp] theorem isA_str_bool : VT.isA .str .bool = false := nrfl rfl
@[simp] theorem isA_str_str : VT.isA .str .str = true := nrfl rfl
@[simp] theorem isA_str_list : VT.isA .str .list = false := nrfl rfl
@[simp] theorem isA_str_tuple : VT.isA .str .tuple = false := nrfl rfl
@[simp] theorem isA_list_int : VT.isA .list .int = false := nrfl rfl
@[simp] theorem isA_list_bool : VT.isA .list .bool = false := nrfl rfl
@[simp] theorem isA_list_str : VT.isA .list .str = false := nrfl rfl
@[simp] theorem isA_list_list : VT.isA .list .list = true := nrfl rfl
@[simp] theorem isA_list_tuple : VT.isA .list .tuple = false := nrfl rfl
@[simp] theorem isA_tuple_int : VT.isA .tuple .int = false := nrfl rfl
@[simp] theorem isA_tuple_bool : VT.isA .tuple .bool = false := nrfl rfl
@[simp] theorem isA_tuple_str : VT.isA .tuple .str = false := nrfl rfl
@[simp] theorem isA_tuple_list : VT.isA .tuple .list = false := nrfl rfl
@[simp] theorem isA_tuple_tuple : VT.isA .tuple .tuple = true := nrfl rfl
@[simp] theorem isA_none_int : VT.isA .none .int = false := nrfl rfl
@[simp] theorem isA_none_bool : VT.isA .none .bool = false := nrfl rfl
@[simp] theorem isA_none_str : VT.isA .none .str = false := nrfl rfl
@[simp] theorem isA_none_list : VT.isA .none .list = false := nrfl rfl
@[simp] theorem isA_none_tuple : VT.isA .none .tuple = false := nrfl rfl
def slK (r : Res VD) (lo hi : Mx (Option Int)) (ρ : Env) : Res VD := r.bind fun x M1 => (lo ρ M1).bind fun l M2 => (hi ρ M2).bind fun h M3 => f_sl x l h M3
def slK2 (x : VD) (r : Res (Option Int)) (hi : Mx (Option Int)) (ρ : Env) : Res VD := r.bind fun l M2 => (hi ρ M2).bind fun h M3 => f_sl x l h M3
def slK3 (x : VD) (l : Option Int) (r : Res (Option Int)) : Res VD := r.bind fun h M3 => f_sl x l h M3
@[simp] theorem e_sl_eq {a lo hi ρ M} : e_sl a lo hi ρ M = slK (a ρ M) lo hi ρ := nrfl rfl
@[simp] theorem slK_ok {x M lo hi ρ} : slK (.ok x M) lo hi ρ = slK2 x (lo ρ M) hi ρ := nrfl rfl
@[simp] theorem slK2_ok {x l M hi ρ} : slK2 x (.ok l M) hi ρ = slK3 x l (hi ρ M) := nrfl rfl
@[simp] theorem slK3_ok {x l h M} : slK3 x l (.ok h M) = f_sl x l h M := nrfl rfl
@[simp] theorem o_none_eq {ρ M} : o_none ρ M = .ok none M := nrfl rfl
def osK (r : Res VD) : Res (Option Int) := r.bind fun v M1 => match v with
  | .d (.int i) => .ok (some i) M1
  | _ => .fail
@[simp] theorem o_some_eq {a ρ M} : o_some a ρ M = osK (a ρ M) := nrfl rfl
@[simp] theorem osK_ok {i M} : osK (.ok (.d (.int i)) M) = .ok (some i) M := nrfl rfl
@[simp] theorem f_sl_s {s l h M} : f_sl (.d (.str s)) l h M = if s.length ≤ lim then .ok (.d (.str (cut s l h))) M else .fail := nrfl rfl
@[simp] theorem f_sl_t {s l h M} : f_sl (.d (.tup s)) l h M = .ok (.d (.tup (cut s l h))) M := nrfl rfl
@[simp] theorem f_sl_l {s l h M} : f_sl (.d (.lst s)) l h M = .ok (.d (.lst (cut s l h))) M := nrfl rfl
@[simp] theorem f_sl_r {s l h M} : f_sl (.d (.scr s)) l h M = .ok (.d (.lst (cut (s.map .int) l h))) M := nrfl rfl
def anyK (r : Res VD) : Res (List D) := r.bind anyI
@[simp] theorem i_any_eq {a ρ M} : i_any a ρ M = anyK (a ρ M) := nrfl rfl
@[simp] theorem anyK_l {s M} : anyK (.ok (.d (.lst s)) M) = .ok s M := nrfl rfl
@[simp] theorem anyK_t {s M} : anyK (.ok (.d (.tup s)) M) = .ok s M := nrfl rfl
@[simp] theorem anyK_s {s M} : anyK (.ok (.d (.str s)) M) = .ok (chars s) M := nrfl rfl
noncomputable def rngK1 (r : Res (List VD)) : Res (List D) := r.bind fun vs M1 => match vs with
  | [.d (.int j)] => gi (-(2 ^ 60) < j ∧ j < 2 ^ 60) (.ok (range 0 j.toNat) M1) .fail
  | _ => .fail
noncomputable def rngK2 (r : Res (List VD)) : Res (List D) := r.bind fun vs M1 => match vs with
  | [.d (.int i), .d (.int j)] => gi ((-(2 ^ 60) < i ∧ i < 2 ^ 60) ∧ (-(2 ^ 60) < j ∧ j < 2 ^ 60)) (.ok (range i (j - i).toNat) M1) .fail
  | _ => .fail
@[simp] theorem i_rng1_eq {a ρ M} : i_rng1 a ρ M = rngK1 (a ρ M) := nrfl rfl
@[simp] theorem i_rng2_eq {a ρ M} : i_rng2 a ρ M = rngK2 (a ρ M) := nrfl rfl
theorem rngK1_ok {j M} : rngK1 (.ok [.d (.int j)] M) = gi (-(2 ^ 60) < j ∧ j < 2 ^ 60) (.ok (range 0 j.toNat) M) .fail := nrfl rfl
theorem rngK2_ok {i j M} : rngK2 (.ok [.d (.int i), .d (.int j)] M) = gi ((-(2 ^ 60) < i ∧ i < 2 ^ 60) ∧ (-(2 ^ 60) < j ∧ j < 2 ^ 60)) (.ok (range i (j - i).toNat) M) .fail := nrfl rfl
@[simp] theorem rngK1_int {j : Int} {M} (h0 : 0 ≤ j) (h1 : j ≤ 1000000) : rngK1 (.ok [.d (.int j)] M) = .ok (range 0 j.toNat) M := by
  rw [rngK1_ok, gi_pos ⟨by omega, by omega⟩]
theorem rngK1_nat {n : Nat} {M} (h : n ≤ lim) : rngK1 (.ok [.d (.int n)] M) = .ok (range 0 n) M := by
  unfold lim at h
  rw [rngK1_int (by omega) (by omega)]
  simp
@[simp] theorem rngK2_int {i j : Int} {M} (h0 : 0 ≤ i) (h1 : i ≤ 1000000) (h2 : 0 ≤ j) (h3 : j ≤ 1000000) : rngK2 (.ok [.d (.int i), .d (.int j)] M) = .ok (range i (j - i).toNat) M := by
  rw [rngK2_ok, gi_pos ⟨⟨by omega, by omega⟩, ⟨by omega, by omega⟩⟩]
def enumK (r : Res (List VD)) : Res (List D) := r.bind fun vs M1 => match vs with
  | [.d (.lst ds)] => .ok (enumL ds 0) M1
  | _ => .fail
@[simp] theorem i_enum_eq {a ρ M} : i_enum a ρ M = enumK (a ρ M) := nrfl rfl
@[simp] theorem enumK_ok {ds M} : enumK (.ok [.d (.lst ds)] M) = .ok (enumL ds 0) M := nrfl rfl
def zipK (r : Res (List VD)) : Res (List D) := r.bind zipI
@[simp] theorem i_zip_eq {a ρ M} : i_zip a ρ M = zipK (a ρ M) := nrfl rfl
@[simp] theorem zipK_l {a b M} : zipK (.ok [.d (.lst a), .d (.lst b)] M) = .ok (zipL a b) M := nrfl rfl
@[simp] theorem zipK_t {a b M} : zipK (.ok [.d (.tup a), .d (.tup b)] M) = .ok (zipL a b) M := nrfl rfl
def compK (r : Res (List D)) (turn : D → Mem → Res (Option D)) : Res VD := r.bind fun items M1 => (compL turn items M1 []).bind fun ds M2 => .ok (.d (.lst ds)) M2
def compK2 (r : Res (List D)) : Res VD := r.bind fun ds M2 => .ok (.d (.lst ds)) M2
@[simp] theorem e_comp_eq {vs mi mg mt me ρ M} : e_comp vs mi mg mt me ρ M = compK (mi ρ M) (cTurn vs mg mt me ρ) := nrfl rfl
@[simp] theorem compK_ok {items M turn} : compK (.ok items M) turn = compK2 (compL turn items M []) := nrfl rfl
@[simp] theorem compK2_ok {ds M} : compK2 (.ok ds M) = .ok (.d (.lst ds)) M := nrfl rfl
@[simp] theorem compL_nil {turn M acc} : compL turn [] M acc = .ok acc M := nrfl rfl
def clK (r : Res (Option D)) (turn : D → Mem → Res (Option D)) (xs acc : List D) : Res (List D) := match r with
    | .ok (some d) M1 => if acc.length < lim then compL turn xs M1 (acc ++ [d]) else .fail
    | .ok none M1 => compL turn xs M1 acc
    | _ => .fail
theorem compL_cons {turn x xs M acc} : compL turn (x :: xs) M acc = clK (turn x M) turn xs acc := nrfl rfl
@[simp] theorem clK_some {d M turn xs acc} : clK (.ok (some d) M) turn xs acc = if acc.length < lim then compL turn xs M (acc ++ [d]) else .fail := nrfl rfl
@[simp] theorem clK_none {M turn xs acc} : clK (.ok none M) turn xs acc = compL turn xs M acc := nrfl rfl
def ctK (o : Option Env) (mt : Mx Bool) (me : Mx VD) (M : Mem) : Res (Option D) := match o with
  | none => .fail
  | some ρ2 => match mt ρ2 M with
    | .ok true M2 => match me ρ2 M2 with
      | .ok (.d x) M3 => .ok (some x) M3
      | _ => .fail
    | .ok false M2 => .ok none M2
    | _ => .fail
def ctK2 (r : Res Bool) (me : Mx VD) (ρ2 : Env) : Res (Option D) := match r with
    | .ok true M2 => match me ρ2 M2 with
      | .ok (.d x) M3 => .ok (some x) M3
      | _ => .fail
    | .ok false M2 => .ok none M2
    | _ => .fail
def ctK3 (r : Res VD) : Res (Option D) := match r with
      | .ok (.d x) M3 => .ok (some x) M3
      | _ => .fail
@[simp] theorem cTurn_eq {vs mg mt me ρ d M} : cTurn vs mg mt me ρ d M = ctK (mg (.d d) (wipeE ρ vs)) mt me M := nrfl rfl
@[simp] theorem ctK_ok {ρ2 mt me M} : ctK (some ρ2) mt me M = ctK2 (mt ρ2 M) me ρ2 := nrfl rfl
@[simp] theorem ctK2_t {M me ρ2} : ctK2 (.ok true M) me ρ2 = ctK3 (me ρ2 M) := nrfl rfl
@[simp] theorem ctK2_f {M me ρ2} : ctK2 (.ok false M) me ρ2 = .ok none M := nrfl rfl
@[simp] theorem ctK3_ok {x M} : ctK3 (.ok (.d x) M) = .ok (some x) M := nrfl rfl
@[simp] theorem e_yes_eq {ρ M} : e_yes ρ M = .ok true M := nrfl rfl
@[simp] theorem wipeE_nil {ρ} : wipeE ρ [] = ρ := nrfl rfl
@[simp] theorem wipeE_cons {ρ : Env} {v vs} : wipeE ρ (v :: vs) = (wipeE ρ vs).set v none := nrfl rfl
@[simp] theorem g_name_eq {i v} {ρ : Env} : g_name i v ρ = some (ρ.set i (some v)) := nrfl rfl
@[simp] theorem g_nil_eq {ρ} : g_nil [] ρ = some ρ := nrfl rfl
def gK (o : Option Env) (gs : List VD → Env → Option Env) (vs : List VD) : Option Env := o.bind (gs vs)
@[simp] theorem g_cons_eq {g gs v vs ρ} : g_cons g gs (v :: vs) ρ = gK (g v ρ) gs vs := nrfl rfl
@[simp] theorem gK_ok {ρ gs vs} : gK (some ρ) gs vs = gs vs ρ := nrfl rfl
@[simp] theorem g_tup_eq {n gs ds ρ} : g_tup n gs (.d (.tup ds)) ρ = if ds.length = n then gs (ds.map .d) ρ else none := nrfl rfl
def seqK (o : Out) (b : Sx) : Out := o.seq b
@[simp] theorem s_seq_eq {a b ρ M} : s_seq a b ρ M = seqK (a ρ M) b := nrfl rfl
@[simp] theorem seqK_nx {ρ M b} : seqK (.nx ρ M) b = b ρ M := nrfl rfl
@[simp] theorem seqK_ret {v M b} : seqK (.ret v M) b = .ret v M := nrfl rfl
@[simp] theorem seqK_brk {v M b} : seqK (.brk v M) b = .brk v M := nrfl rfl
@[simp] theorem seqK_ct {v M b} : seqK (.ct v M) b = .ct v M := nrfl rfl
@[simp] theorem s_skip_eq {ρ M} : s_skip ρ M = .nx ρ M := nrfl rfl
@[simp] theorem s_retN_eq {ρ M} : s_retN ρ M = .ret (.d .non) M := nrfl rfl
def retK (r : Res VD) : Out := r.out fun v M1 => .ret v M1
@[simp] theorem s_ret_eq {m ρ M} : s_ret m ρ M = retK (m ρ M) := nrfl rfl
@[simp] theorem retK_ok {v M} : retK (.ok v M) = .ret v M := nrfl rfl
def exprK (r : Res VD) (ρ : Env) : Out := r.out fun _ M1 => .nx ρ M1
@[simp] theorem s_expr_eq {m ρ M} : s_expr m ρ M = exprK (m ρ M) ρ := nrfl rfl
@[simp] theorem exprK_ok {v M ρ} : exprK (.ok v M) ρ = .nx ρ M := nrfl rfl
def asgK (r : Res VD) (mg : VD → Env → Option Env) (ρ : Env) : Out := r.out fun v M1 => match mg v ρ with
  | some ρ' => .nx ρ' M1
  | none => .fail
def asgK2 (o : Option Env) (M : Mem) : Out := match o with
  | some ρ' => .nx ρ' M
  | none => .fail
@[simp] theorem s_asg_eq {m mg ρ M} : s_asg m mg ρ M = asgK (m ρ M) mg ρ := nrfl rfl
@[simp] theorem asgK_ok {v M mg ρ} : asgK (.ok v M) mg ρ = asgK2 (mg v ρ) M := nrfl rfl
@[simp] theorem asgK2_ok {ρ M} : asgK2 (some ρ) M = .nx ρ M := nrfl rfl
def sifK (r : Res Bool) (a b : Sx) (ρ : Env) : Out := r.out fun c M1 => if c then a ρ M1 else b ρ M1
@[simp] theorem s_if_eq {t a b ρ M} : s_if t a b ρ M = sifK (t ρ M) a b ρ := nrfl rfl
@[simp] theorem sifK_t {a b ρ M} : sifK (.ok true M) a b ρ = a ρ M := nrfl rfl
@[simp] theorem sifK_f {a b ρ M} : sifK (.ok false M) a b ρ = b ρ M := nrfl rfl
def parK (i j : Nat) (r : Res (List VD)) (ρ : Env) : Out := r.out fun vs M1 => match vs with
  | [a, b] => .nx ((ρ.set i (some a)).set j (some b)) M1
  | _ => .fail
@[simp] theorem s_par_eq {i j ms ρ M} : s_par i j ms ρ M = parK i j (ms ρ M) ρ := nrfl rfl
@[simp] theorem parK_ok {i j a b M} {ρ : Env} : parK i j (.ok [a, b] M) ρ = .nx ((ρ.set i (some a)).set j (some b)) M := nrfl rfl
def forK (r : Res (List D)) (mg : VD → Env → Option Env) (body : Sx) (ρ : Env) : Out := r.out fun items M1 => forL mg body items ρ M1
@[simp] theorem s_for_eq {mi mg body ρ M} : s_for mi mg body ρ M = forK (mi ρ M) mg body ρ := nrfl rfl
@[simp] theorem forK_ok {items M mg body ρ} : forK (.ok items M) mg body ρ = forL mg body items ρ M := nrfl rfl
@[simp] theorem forL_nil {mg body ρ M} : forL mg body [] ρ M = .nx ρ M := nrfl rfl
def flK (o : Option Env) (mg : VD → Env → Option Env) (body : Sx) (xs : List D) (M : Mem) : Out := match o with
    | none => .fail
    | some ρ1 => match body ρ1 M with
      | .nx ρ2 M2 => forL mg body xs ρ2 M2
      | .ct ρ2 M2 => forL mg body xs ρ2 M2
      | .brk ρ2 M2 => .nx ρ2 M2
      | o => o
def flK2 (o : Out) (mg : VD → Env → Option Env) (body : Sx) (xs : List D) : Out := match o with
      | .nx ρ2 M2 => forL mg body xs ρ2 M2
      | .ct ρ2 M2 => forL mg body xs ρ2 M2
      | .brk ρ2 M2 => .nx ρ2 M2
      | o => o
theorem forL_cons {mg body x xs ρ M} : forL mg body (x :: xs) ρ M = flK (mg (.d x) ρ) mg body xs M := nrfl rfl
@[simp] theorem flK_ok {ρ mg body xs M} : flK (some ρ) mg body xs M = flK2 (body ρ M) mg body xs := nrfl rfl
@[simp] theorem flK2_nx {ρ M mg body xs} : flK2 (.nx ρ M) mg body xs = forL mg body xs ρ M := nrfl rfl
@[simp] theorem flK2_ct {ρ M mg body xs} : flK2 (.ct ρ M) mg body xs = forL mg body xs ρ M := nrfl rfl
@[simp] theorem flK2_brk {ρ M mg body xs} : flK2 (.brk ρ M) mg body xs = .nx ρ M := nrfl rfl
@[simp] theorem flK2_ret {v M mg body xs} : flK2 (.ret v M) mg body xs = .ret v M := nrfl rfl
def setiK (r : Res VD) (o i : Mx VD) (ρ : Env) : Out := r.out fun v M1 => (o ρ M1).out fun x M2 => (i ρ M2).out fun y M3 => (f_seti v x y M3).out fun _ M4 => .nx ρ M4
def setiK2 (v : VD) (r : Res VD) (i : Mx VD) (ρ : Env) : Out := r.out fun x M2 => (i ρ M2).out fun y M3 => (f_seti v x y M3).out fun _ M4 => .nx ρ M4
def setiK3 (v x : VD) (r : Res VD) (ρ : Env) : Out := r.out fun y M3 => (f_seti v x y M3).out fun _ M4 => .nx ρ M4
def setiK4 (r : Res Unit) (ρ : Env) : Out := r.out fun _ M4 => .nx ρ M4
@[simp] theorem s_seti_eq {m o i ρ M} : s_seti m o i ρ M = setiK (m ρ M) o i ρ := nrfl rfl
@[simp] theorem setiK_ok {v M o i ρ} : setiK (.ok v M) o i ρ = setiK2 v (o ρ M) i ρ := nrfl rfl
@[simp] theorem setiK2_ok {v x M i ρ} : setiK2 v (.ok x M) i ρ = setiK3 v x (i ρ M) ρ := nrfl rfl
@[simp] theorem setiK3_ok {v x y M ρ} : setiK3 v x (.ok y M) ρ = setiK4 (f_seti v x y M) ρ := nrfl rfl
@[simp] theorem setiK4_ok {M ρ} : setiK4 (.ok () M) ρ = .nx ρ M := nrfl rfl
def setiV (o : Option MO) (d : D) (j : Nat) (i : Int) (M : Mem) : Res Unit := match o with
    | some (.lst ds) => match ixN ds.length i with
      | some n => .ok () (M.set j (.lst (ds.set n d)))
      | none => .fail
    | _ => .fail
def setiV2 (o : Option Nat) (ds : List D) (d : D) (j : Nat) (M : Mem) : Res Unit := match o with
      | some n => .ok () (M.set j (.lst (ds.set n d)))
      | none => .fail
@[simp] theorem f_seti_eq {d} {j : Nat} {i} {M : Mem} : f_seti (.d d) (.adr j) (.d (.int i)) M = setiV (M[j]?) d j i M := nrfl rfl
@[simp] theorem setiV_ok {ds d j i M} : setiV (some (.lst ds)) d j i M = setiV2 (ixN ds.length i) ds d j M := nrfl rfl
@[simp] theorem setiV2_ok {n ds d j} {M : Mem} : setiV2 (some n) ds d j M = .ok () (M.set j (.lst (ds.set n d))) := nrfl rfl
def appK (r : Res VD) (b : Mx VD) (ρ : Env) : Res VD := r.bind fun x M1 => match lstOf M1 x with
  | some _ => (b ρ M1).bind fun v M2 => f_app x v M2
  | none => .fail
def appK1 (o : Option (List D)) (x : VD) (b : Mx VD) (ρ : Env) (M : Mem) : Res VD := match o with
  | some _ => (b ρ M).bind fun v M2 => f_app x v M2
  | none => .fail
def appK2 (x : VD) (r : Res VD) : Res VD := r.bind fun v M2 => f_app x v M2
@[simp] theorem e_app_eq {a b ρ M} : e_app a b ρ M = appK (a ρ M) b ρ := nrfl rfl
@[simp] theorem appK_ok {x M b ρ} : appK (.ok x M) b ρ = appK1 (lstOf M x) x b ρ M := nrfl rfl
@[simp] theorem appK1_ok {ds x b ρ M} : appK1 (some ds) x b ρ M = appK2 x (b ρ M) := nrfl rfl
@[simp] theorem appK2_ok {x v M} : appK2 x (.ok v M) = f_app x v M := nrfl rfl
def lstOfK : Option MO → Option (List D)
  | some (.lst ds) => some ds
  | _ => none
@[simp] theorem lstOf_a {i : Nat} {M : Mem} : lstOf M (.adr i) = lstOfK (M[i]?) := by
  unfold lstOf lstOfK
  rfl
@[simp] theorem lstOfK_ok {ds} : lstOfK (some (.lst ds)) = some ds := nrfl rfl
def fappK (o : Option MO) (j : Nat) (d : D) (M : Mem) : Res VD := match o with
    | some (.lst ds) => if ds.length < lim then .ok (.d .non) (M.set j (.lst (ds ++ [d]))) else .fail
    | _ => .fail
@[simp] theorem f_app_eq {j : Nat} {d} {M : Mem} : f_app (.adr j) (.d d) M = fappK (M[j]?) j d M := nrfl rfl
@[simp] theorem fappK_ok {ds j d} {M : Mem} : fappK (some (.lst ds)) j d M = if ds.length < lim then .ok (.d .non) (M.set j (.lst (ds ++ [d]))) else .fail := nrfl rfl
def m1K (f : VD → VD → Mem → Res VD) (r : Res VD) (b : Mx VD) (ρ : Env) : Res VD := r.bind fun x M1 => if isStr x then (b ρ M1).bind fun y M2 => f x y M2 else .fail
@[simp] theorem e_m1_eq {f a b ρ M} : e_m1 f a b ρ M = m1K f (a ρ M) b ρ := nrfl rfl
@[simp] theorem m1K_ok {f s M b ρ} : m1K f (.ok (.d (.str s)) M) b ρ = opK2 f (.d (.str s)) (b ρ M) := nrfl rfl
def joinK (sep : List Nat) (o : Option (List (List Nat))) (M : Mem) : Res VD := match o with
    | some ss => if szs ss + ss.length * sep.length ≤ lim then .ok (.d (.str (TL.joinL sep ss))) M else .fail
    | none => .fail
@[simp] theorem f_join_l {sep ds M} : f_join (.d (.str sep)) (.d (.lst ds)) M = joinK sep (stL ds) M := nrfl rfl
@[simp] theorem joinK_ok {sep ss M} : joinK sep (some ss) M = if szs ss + ss.length * sep.length ≤ lim then .ok (.d (.str (TL.joinL sep ss))) M else .fail := nrfl rfl
@[simp] theorem f_srt_s {s M} : f_srt [.d (.str s)] M = if s.length < 63 then .ok (.d (.lst ((sortU s).map fun c => .str [c]))) M else .fail := nrfl rfl
def revK (r : Res VD) : Res VD := r.bind f_rev
@[simp] theorem e_rev_eq {m : Mx VD} {ρ M} : e_rev m ρ M = revK (m ρ M) := nrfl rfl
@[simp] theorem revK_s {s M} : revK (.ok (.d (.str s)) M) = if s.length ≤ lim then .ok (.d (.str s.reverse)) M else .fail := nrfl rfl
def addOK (o o2 : Option (List D)) (M : Mem) : Res VD := match o, o2 with
  | some s, some t => if s.length + t.length ≤ lim then .ok (.adr M.length) (M ++ [.lst (s ++ t)]) else .fail
  | _, _ => .fail
@[simp] theorem f_addO_eq {a b M} : f_addO a b M = addOK (lstOf M a) (lstOf M b) M := nrfl rfl
@[simp] theorem addOK_ok {s t M} : addOK (some s) (some t) M = if s.length + t.length ≤ lim then .ok (.adr M.length) (M ++ [.lst (s ++ t)]) else .fail := nrfl rfl
@[simp] theorem lstOf_d {s M} : lstOf M (.d (.lst s)) = some s := nrfl rfl
def frzK (o : Option (Env × Mem)) (s : Sx) : Out := match o with
  | some (ρ1, M1) => s ρ1 M1
  | none => .fail
@[simp] theorem s_frz_eq {i s ρ M} : s_frz i s ρ M = frzK (frz1 i ρ M) s := nrfl rfl
@[simp] theorem frzK_ok {ρ M s} : frzK (some (ρ, M)) s = s ρ M := nrfl rfl
def fnK (n : Nat) (o : Out) : Res VD := trim n (nox (match o with
  | .nx _ M1 => .ok (.d .non) M1
  | .ret v M1 => .ok v M1
  | .exc c fs M1 => .exc c fs M1
  | _ => .fail))
theorem fnM_eq {n body ds M} : fnM n body ds M = fnK M.length (body (ds.map some ++ List.replicate (n - ds.length) none) M) := nrfl rfl
@[simp] theorem fnK_ret {n v M} : fnK n (.ret v M) = trim n (.ok v M) := nrfl rfl
@[simp] theorem fnK_nx {n ρ M} : fnK n (.nx ρ M) = trim n (.ok (.d .non) M) := nrfl rfl
theorem trim_same {n : Nat} {v : VD} {M : Mem} (h : M.length ≤ n) : trim n (.ok v M) = .ok v M := by
  unfold trim
  dsimp only
  split
  · rw [List.take_of_length_le h]
  · rfl
@[simp] theorem trim_same' {v : VD} {M : Mem} : trim M.length (.ok v M) = .ok v M := trim_same (Nat.le_refl _)
end G
namespace G
open PySem PySem.Spec PyProof.Rows L2
theorem ifl {α : Sort _} {a b : Nat} {x y : α} (h : a ≤ b) : (if a ≤ b then x else y) = x := if_pos h
theorem ifL {α : Sort _} {a b : Nat} {x y : α} (h : a < b) : (if a < b then x else y) = x := if_pos h
/-- what a statement's end must keep: gone on, returned, continued, broken off -/
def OcD (o : Out) (P : Env → Mem → Prop) (R : VD → Mem → Prop) (Ct B : Env → Mem → Prop) : Prop := match o with
  | .nx ρ M => P ρ M
  | .ret v M => R v M
  | .ct ρ M => Ct ρ M
  | .brk ρ M => B ρ M
  | _ => False
/-- a structure, so that no reduction starts at it -/
structure Oc (o : Out) (P : Env → Mem → Prop) (R : VD → Mem → Prop) (Ct B : Env → Mem → Prop) : Prop where
  go : OcD o P R Ct B
section
variable {P : Env → Mem → Prop} {R : VD → Mem → Prop} {Ct B : Env → Mem → Prop}
theorem Oc_eq {o : Out} : Oc o P R Ct B = OcD o P R Ct B := propext ⟨Oc.go, Oc.mk⟩
@[simp] theorem Oc_nx {ρ M} : Oc (.nx ρ M) P R Ct B = P ρ M := Oc_eq
@[simp] theorem Oc_ret {v M} : Oc (.ret v M) P R Ct B = R v M := Oc_eq
@[simp] theorem Oc_ct {ρ M} : Oc (.ct ρ M) P R Ct B = Ct ρ M := Oc_eq
@[simp] theorem Oc_brk {ρ M} : Oc (.brk ρ M) P R Ct B = B ρ M := Oc_eq
theorem Oc.mono {o : Out} {P' : Env → Mem → Prop} {R' : VD → Mem → Prop} {Ct' B' : Env → Mem → Prop} (h : Oc o P R Ct B) (hp : ∀ ρ M, P ρ M → P' ρ M) (hr : ∀ v M, R v M → R' v M) (hc : ∀ ρ M, Ct ρ M → Ct' ρ M) (hb : ∀ ρ M, B ρ M → B' ρ M) : Oc o P' R' Ct' B' := by
  cases o with
  | nx ρ M => exact ⟨hp _ _ h.go⟩
  | ret v M => exact ⟨hr _ _ h.go⟩
  | ct ρ M => exact ⟨hc _ _ h.go⟩
  | brk ρ M => exact ⟨hb _ _ h.go⟩
  | exc c fs M => exact h.go.elim
  | fail => exact h.go.elim
theorem Oc.seq {o : Out} {s : Sx} (h : Oc o (fun ρ M => Oc (s ρ M) P R Ct B) R Ct B) : Oc (seqK o s) P R Ct B := by
  cases o with
  | nx ρ M => exact h.go
  | ret v M => exact ⟨h.go⟩
  | ct ρ M => exact ⟨h.go⟩
  | brk ρ M => exact ⟨h.go⟩
  | exc c fs M => exact h.go.elim
  | fail => exact h.go.elim
/-- a turn -/
def tn (o : Option Env) (body : Sx) (M : Mem) : Out := match o with
  | some ρ => body ρ M
  | none => .fail
@[simp] theorem tn_ok {ρ body M} : tn (some ρ) body M = body ρ M := rfl
/-- .. with a count -/
theorem Oc.cnt {mg : VD → Env → Option Env} {body : Sx} (I : Nat → Env → Mem → Prop) : ∀ (items : List D) (k : Nat), (∀ i x, items[i]? = some x → ∀ ρ M, I (k + i) ρ M → Oc (tn (mg (.d x) ρ) body M) (I (k + i + 1)) R (I (k + i + 1)) P) → (∀ ρ M, I (k + items.length) ρ M → P ρ M) → ∀ ρ M, I k ρ M → Oc (forL mg body items ρ M) P R Ct B
  | [], k, _, hp, ρ, M, h => ⟨hp ρ M h⟩
  | x :: xs, k, hs, hp, ρ, M, h => by
    have h1 := hs 0 x rfl ρ M h
    have go := fun ρ2 M2 h2 => Oc.cnt I xs (k + 1) (fun i y hy => by
      have := hs (i + 1) y (by simpa using hy)
      rw [show k + (i + 1) = k + 1 + i by omega] at this
      exact this) (fun ρ M h => hp ρ M (by rw [List.length_cons, show k + (xs.length + 1) = k + 1 + xs.length by omega]; exact h)) ρ2 M2 h2
    rw [forL_cons]
    cases e : mg (.d x) ρ with
    | none => rw [e] at h1; exact h1.go.elim
    | some ρ1 =>
      rw [e, tn_ok] at h1
      rw [flK_ok]
      cases e2 : body ρ1 M with
      | nx ρ2 M2 => rw [e2] at h1; exact go _ _ h1.go
      | ret v M2 => rw [e2] at h1; exact ⟨h1.go⟩
      | ct ρ2 M2 => rw [e2] at h1; exact go _ _ h1.go
      | brk ρ2 M2 => rw [e2] at h1; exact ⟨h1.go⟩
      | exc c fs M2 => rw [e2] at h1; exact h1.go.elim
      | fail => rw [e2] at h1; exact h1.go.elim
theorem Oc.seq' {o : Out} {s : Sx} (Q : Env → Mem → Prop) (h : Oc o Q R Ct B) (hs : ∀ ρ M, Q ρ M → Oc (s ρ M) P R Ct B) : Oc (seqK o s) P R Ct B :=
  Oc.seq (h.mono hs (fun _ _ h => h) (fun _ _ h => h) (fun _ _ h => h))
end
/-- a law's end -/
theorem law_end {body : Sx} {n : Nat} {v : VD} (h : Oc (body ([v].map some ++ List.replicate (n - [v].length) none) []) (fun _ _ => False) (fun v _ => v = .d (.bl true)) (fun _ _ => False) (fun _ _ => False)) : ∃ M, fnM n body [v] [] = .ok (.d (.bl true)) M := by
  rw [fnM_eq]
  generalize hb : body ([v].map some ++ List.replicate (n - [v].length) none) [] = o at h
  cases o with
  | nx ρ M => exact h.go.elim
  | ret v M =>
    cases (show v = .d (.bl true) from h.go)
    rw [fnK_ret]
    unfold trim
    exact ⟨_, rfl⟩
  | ct ρ M => exact h.go.elim
  | brk ρ M => exact h.go.elim
  | exc c fs M => exact h.go.elim
  | fail => exact h.go.elim
end G
namespace G
open PySem PySem.Spec PyProof.Rows L2
noncomputable def b__law_some_step : Sx :=
    (s_ret (e_tup (a_cons (e_call 2 m__law_draw (a_cons (e_var 0) (a_cons (e_op f_add (e_bi f_len (a_cons (e_op f_ix (e_var 2) (e_c (.int 0))) a_nil)) (e_c (.int 1))) a_nil))) (a_cons (e_call 2 m__law_of (a_cons (e_var 0) (a_cons (e_op f_ix (e_var 1) (e_c (.int 1))) a_nil))) a_nil))))
noncomputable def m__law_some_step : List VD → Mem → Res VD := fnM 3 b__law_some_step
noncomputable def b__law_try_take : Sx :=
    (s_seq (s_asg (e_call 2 m__law_draw (a_cons (e_var 0) (a_cons (e_op f_add (e_bi f_len (a_cons (e_op f_ix (e_var 2) (e_c (.int 0))) a_nil)) (e_c (.int 1))) a_nil))) (g_name 3))
    (s_seq (s_if (e_asB (e_op f_ne (e_op f_ix (e_call 2 m__law_take_due (a_cons (e_var 2) (a_cons (e_var 3) a_nil))) (e_c (.int 0))) (e_c (.str [])))) (s_ret (e_var 2)) s_skip)
    (s_seq (s_expr (e_meth 50 (ar 2 m_Grown_take) (e_var 1) (a_cons (e_var 3) a_nil)))
    (s_ret (e_call 2 m__law_taken (a_cons (e_var 2) (a_cons (e_op f_ix (e_op f_ix (e_op f_ix (e_var 2) (e_c (.int 0))) (e_var 3)) (e_c (.int 1))) a_nil)))))))
noncomputable def m__law_try_take : List VD → Mem → Res VD := fnM 4 b__law_try_take
noncomputable def b_columns_o : Sx :=
    (s_seq (s_asg (e_lstO a_nil) (g_name 1))
    (s_seq (s_for (i_enumA (a_cons (e_meth 50 (ar 1 m_Grown_births) (e_var 0) a_nil) a_nil)) (g_tup 2 (g_cons (g_name 2) (g_cons (g_tup 4 (g_cons (g_name 4) (g_cons (g_name 5) (g_cons (g_name 6) (g_cons (g_name 7) g_nil))))) g_nil))) (s_seq (s_asg (e_if (e_asB (e_op (f_is false) (e_var 6) (e_c .non))) (e_c (.str [45])) (e_bi f_str (a_cons (e_var 6) a_nil))) (g_name 3))
    (s_expr (e_app (e_var 1) (e_fstr (j_cons (e_fmtN (e_var 2)) (j_cons (e_c (.str [32])) (j_cons (e_fmt (e_var 4)) (j_cons (e_c (.str [32])) (j_cons (e_fmtS false 3 (e_var 5)) (j_cons (e_c (.str [32])) (j_cons (e_fmtS true 4 (e_var 3)) (j_cons (e_c (.str [32])) (j_cons (e_fmt (e_var 7)) j_nil))))))))))))))
    (s_ret (e_var 1))))
noncomputable def m_columns_o : List VD → Mem → Res VD := fnM 8 b_columns_o
noncomputable def b_columns : Sx :=
    (s_seq (s_asg (e_lstO a_nil) (g_name 1))
    (s_seq (s_for (i_enumA (a_cons (e_meth 50 (ar 1 m_Grown_births) (e_var 0) a_nil) a_nil)) (g_tup 2 (g_cons (g_name 2) (g_cons (g_tup 4 (g_cons (g_name 4) (g_cons (g_name 5) (g_cons (g_name 6) (g_cons (g_name 7) g_nil))))) g_nil))) (s_seq (s_asg (e_if (e_asB (e_op (f_is false) (e_var 6) (e_c .non))) (e_c (.str [45])) (e_bi f_str (a_cons (e_var 6) a_nil))) (g_name 3))
    (s_expr (e_app (e_var 1) (e_fstr (j_cons (e_fmtN (e_var 2)) (j_cons (e_c (.str [32])) (j_cons (e_fmt (e_var 4)) (j_cons (e_c (.str [32])) (j_cons (e_fmtS false 3 (e_var 5)) (j_cons (e_c (.str [32])) (j_cons (e_fmtS true 4 (e_var 3)) (j_cons (e_c (.str [32])) (j_cons (e_fmt (e_var 7)) j_nil))))))))))))))
    (s_frz 1 (s_ret (e_var 1)))))
noncomputable def m_columns : List VD → Mem → Res VD := fnM 8 b_columns
noncomputable def b_law : Sx :=
    (s_seq (s_asg (e_call 1 m__law_open (a_cons (e_var 0) a_nil)) (g_name 1))
    (s_seq (s_asg (e_call 2 m__law_some_book (a_cons (e_var 1) (a_cons (e_lst (a_cons (e_c (.int 3)) (a_cons (e_c (.int 2)) (a_cons (e_c (.int 5)) (a_cons (e_c (.int 3)) a_nil))))) a_nil))) (g_name 2))
    (s_seq (s_par 6 7 (a_cons (e_call 1 m__law_book (a_cons (e_var 2) a_nil)) (a_cons (e_call 3 m__law_string (a_cons (e_var 1) (a_cons (e_op f_ix (e_var 2) (e_c (.int 0))) (a_cons (e_c (.int 3)) a_nil)))) a_nil)))
    (s_seq (s_par 8 9 (a_cons (e_makeKO 50 2 m_Grown___init__ (a_cons (e_var 6) (a_cons (e_var 7) a_nil)) (e_c (.int 99))) (a_cons (e_tup (a_cons (e_call 1 m__law_begin (a_cons (e_var 7) a_nil)) (a_cons (e_lst a_nil) a_nil))) a_nil)))
    (s_seq (s_for (i_rng1 (a_cons (e_op f_add (e_c (.int 2)) (e_call 2 m__law_draw (a_cons (e_var 1) (a_cons (e_c (.int 19)) a_nil)))) a_nil)) (g_name 3) (s_seq (s_asg (e_call 3 m__law_some_step (a_cons (e_var 1) (a_cons (e_var 2) (a_cons (e_var 9) a_nil)))) (g_name 10))
    (s_seq (s_expr (e_meth 50 (ar 3 m_Grown_put) (e_var 8) (a_cons (e_op f_ix (e_var 10) (e_c (.int 0))) (a_cons (e_op f_ix (e_var 10) (e_c (.int 1))) a_nil))))
    (s_seq (s_asg (e_call 3 m__law_put (a_cons (e_var 2) (a_cons (e_var 9) (a_cons (e_var 10) a_nil)))) (g_name 9))
    (s_if (e_asB (e_op f_eq (e_call 2 m__law_draw (a_cons (e_var 1) (a_cons (e_c (.int 4)) a_nil))) (e_c (.int 0)))) (s_asg (e_call 3 m__law_try_take (a_cons (e_var 1) (a_cons (e_var 8) (a_cons (e_var 9) a_nil)))) (g_name 9)) s_skip)))))
    (s_seq (s_asg (e_lstO a_nil) (g_name 4))
    (s_seq (s_for (i_enumA (a_cons (e_op f_ix (e_var 9) (e_c (.int 1))) a_nil)) (g_tup 2 (g_cons (g_name 11) (g_cons (g_name 12) g_nil))) (s_seq (s_asg (e_if (e_asB (e_op f_lt (e_op f_ix (e_var 12) (e_c (.int 2))) (e_c (.int 0)))) (e_c (.str [45])) (e_bi f_str (a_cons (e_op f_ix (e_var 12) (e_c (.int 2))) a_nil))) (g_name 13))
    (s_expr (e_app (e_var 4) (e_op f_add (e_op f_add (e_op f_add (e_op f_add (e_op f_add (e_op f_add (e_op f_add (e_op f_add (e_m1 (f_pad true) (e_bi f_str (a_cons (e_var 11) a_nil)) (e_c (.int 4))) (e_c (.str [32]))) (e_op f_ix (e_var 12) (e_c (.int 0)))) (e_c (.str [32]))) (e_m1 (f_pad false) (e_op f_ix (e_var 12) (e_c (.int 1))) (e_c (.int 3)))) (e_c (.str [32]))) (e_m1 (f_pad true) (e_var 13) (e_c (.int 4)))) (e_c (.str [32]))) (e_bi f_str (a_cons (e_op f_ix (e_var 12) (e_c (.int 3))) a_nil)))))))
    (s_seq (s_frz 4 (s_asg (e_call 1 m_columns_o (a_cons (e_var 8) a_nil)) (g_name 5)))
    (s_seq (s_if (e_notT (e_truth (e_peek (e_call 2 (m__law_same 8) (a_cons (e_var 5) (a_cons (e_var 4) a_nil)))))) (s_ret (e_c (.bl false))) s_skip)
    (s_seq (s_expr (e_app (e_var 5) (e_c (.str [120]))))
    (s_ret (e_call 2 (m__law_same 8) (a_cons (e_lst (a_cons (e_call 1 m_columns (a_cons (e_var 8) a_nil)) (a_cons (e_call 1 m_columns (a_cons (e_makeO 50 (arD 4 [.int 60] m_Grown___init__) (a_cons (e_var 6) (a_cons (e_var 7) a_nil))) a_nil)) a_nil))) (a_cons (e_lst (a_cons (e_var 4) (a_cons (e_lst a_nil) a_nil))) a_nil))))))))))))))
noncomputable def m_law : List VD → Mem → Res VD := fnM 14 b_law
end G
namespace G
open PySem PySem.Spec PyProof.Rows L2
structure Bag where
  cs : List Int
  p : Int
  r : Int
  x : Int
  n : Int
def mo (b : Bag) : MO := .lst [.lst (b.cs.map .int), .int b.p, .int b.r, .int b.x, .int b.n]
structure BagOk (b : Bag) : Prop where
  p : 0 ≤ b.p
  r : 0 ≤ b.r
  x : 0 ≤ b.x
  x2 : b.x < 2147483648
theorem atI_map {α β : Type} (g : α → β) {l : List α} {i : Int} (h0 : 0 ≤ i) (h1 : i < l.length) : ∃ a, l[i.toNat]? = some a ∧ L2.atI (l.map g) i = some (g a) := by
  have hn : i.toNat < l.length := by omega
  refine ⟨l[i.toNat], List.getElem?_eq_getElem hn, ?_⟩
  have e := atI_nat' (l := l.map g) (n := i.toNat) (a := g l[i.toNat]) (by simp [hn])
  rw [Int.toNat_of_nonneg h0] at e
  exact e
theorem mod_lt31 (i : Int) : 0 ≤ i % 2147483629 ∧ i % 2147483629 < 2147483648 := by omega
theorem draw_ok {b : Bag} (hb : BagOk b) {many : Int} (h0 : 0 < many) (h1 : many < 1073741824) (Mr : Mem) : ∃ v b', m__law_draw [.adr 0, .d (.int many)] (mo b :: Mr) = .ok (.d (.int v)) (mo b' :: Mr) ∧ BagOk b' ∧ 0 ≤ v ∧ v < many := by
  obtain ⟨cs, p, r, x, n⟩ := b
  obtain ⟨hp, hr, hx, hx2⟩ := hb
  dsimp only at hp hr hx hx2
  have hx3 : -18446744073709551616 < x := by omega
  have hx4 : x < 18446744073709551616 := by omega
  unfold m__law_draw
  rw [fnM_eq]
  unfold b__law_draw
  have fin : ∀ (r : Int) (p x n : Int) (ρ3 : Option VD), 0 ≤ r → 0 ≤ p → 0 ≤ x → x < 2147483648 → ∃ v b', fnK (List.length Mr + 1) (seqK (.nx [some (VD.adr 0), some (VD.d (D.int many)), none, ρ3, none] (MO.lst [D.lst (List.map D.int cs), D.int p, D.int r, D.int x, D.int n] :: Mr))
      (s_seq
              (s_if (e_asB (e_op f_gt (e_op f_ix (e_var 0) (e_c (D.int 2))) (e_c (D.int 0))))
                (s_seq
                  (s_asg (e_op f_mod (e_bi f_int (a_cons (e_op f_ix (e_var 0) (e_c (D.int 2))) a_nil)) (e_var 1))
                    (g_name 4))
                  (s_seq
                    (s_seti (e_op f_fdiv (e_op f_ix (e_var 0) (e_c (D.int 2))) (e_var 1)) (e_var 0) (e_c (D.int 2)))
                    (s_ret (e_var 4))))
                s_skip)
              (s_seq
                (s_asg
                  (e_op f_mod
                    (e_bi f_int
                      (a_cons
                        (e_op f_add
                          (e_op f_mul (e_op f_ix (e_var 0) (e_c (D.int 3))) (e_op f_ix (e_var 0) (e_c (D.int 3))))
                          (e_op f_mul (e_op f_ix (e_var 0) (e_c (D.int 4))) (e_c (D.int 9133))))
                        a_nil))
                    (e_c (D.int 2147483549)))
                  (g_name 2))
                (s_seq
                  (s_seti
                    (e_op f_mod
                      (e_bi f_int
                        (a_cons
                          (e_op f_add
                            (e_op f_add (e_op f_mul (e_var 2) (e_c (D.int 16033)))
                              (e_op f_mul (e_op f_ix (e_var 0) (e_c (D.int 3))) (e_c (D.int 51043))))
                            (e_c (D.int 60029)))
                          a_nil))
                      (e_c (D.int 2147483629)))
                    (e_var 0) (e_c (D.int 3)))
                  (s_ret
                    (e_op f_mod
                      (e_bi f_int (a_cons (e_op f_fdiv (e_op f_ix (e_var 0) (e_c (D.int 3))) (e_c (D.int 64))) a_nil))
                      (e_var 1))))))) =
        Res.ok (VD.d (D.int v)) (mo b' :: Mr) ∧ BagOk b' ∧ 0 ≤ v ∧ v < many := by
    intro r p x n ρ3 hr hp hx hx2
    by_cases hr0 : 0 < r
    · refine ⟨r % many, ⟨cs, p, r / many, x, n⟩, ?_, ⟨hp, Int.ediv_nonneg hr (by omega), hx, hx2⟩, Int.emod_nonneg _ (by omega), Int.emod_lt_of_pos _ h0⟩
      simp [mo, ixN, hr0, h0, h1]
      rw [trim_same (by simp)]
    · have e : r = 0 := by omega
      subst e
      refine ⟨((x * x + n * 9133) % 2147483549 * 16033 + x * 51043 + 60029) % 2147483629 / 64 % many, ⟨cs, p, 0, ((x * x + n * 9133) % 2147483549 * 16033 + x * 51043 + 60029) % 2147483629, n⟩, ?_, ⟨hp, Int.le_refl _, (mod_lt31 _).1, (mod_lt31 _).2⟩, Int.emod_nonneg _ (by omega), Int.emod_lt_of_pos _ h0⟩
      · simp [mo, ixN, h0, h1, show -18446744073709551616 < x by omega, show x < 18446744073709551616 by omega]
        rw [trim_same (by simp)]
  by_cases hr0 : r = 0
  · subst hr0
    by_cases hp1 : p < cs.length
    · obtain ⟨c, hc, ha⟩ := atI_map D.int (l := cs) hp hp1
      by_cases hb : 1000000000000000000 ≤ (if c < 0 then -c else c)
      · obtain ⟨v, b', e, r1, r2⟩ := fin (if c < 0 then -c else c) (p + 1) x (n + 1) (some (.d (.int c))) (by omega) (by omega) hx hx2
        refine ⟨v, b', ?_, r1, r2⟩
        rw [← e]
        simp [mo, ixN, hp1, ha, hb]
      · obtain ⟨v, b', e, r1, r2⟩ := fin 0 (p + 1) ((x * 38113 + c % 1000003 * 691 + 47) % 2147483629) (n + 1) (some (.d (.int c))) (by omega) (by omega) (mod_lt31 _).1 (mod_lt31 _).2
        refine ⟨v, b', ?_, r1, r2⟩
        rw [← e]
        simp [mo, ixN, hp1, ha, hb, hx3, hx4]
    · obtain ⟨v, b', e, r1, r2⟩ := fin 0 p x (n + 1) none (by omega) hp hx hx2
      refine ⟨v, b', ?_, r1, r2⟩
      rw [← e]
      simp [mo, ixN, hp1]
  · obtain ⟨v, b', e, r1, r2⟩ := fin r p x (n + 1) none hr hp hx hx2
    refine ⟨v, b', ?_, r1, r2⟩
    rw [← e]
    have : (r == 0) = false := by simpa using hr0
    simp [mo, ixN, this]
end G
namespace G
open PySem PySem.Spec PyProof.Rows L2
theorem lim_eq : lim = 1000000 := rfl
/-- a loop with an invariant -/
theorem forL_inv {mg : VD → Env → Option Env} {body : Sx} (I : Env → Mem → Prop) : ∀ (items : List D), (∀ x ∈ items, ∀ ρ M, I ρ M → ∃ ρ1 ρ2 M2, mg (.d x) ρ = some ρ1 ∧ body ρ1 M = .nx ρ2 M2 ∧ I ρ2 M2) → ∀ ρ M, I ρ M → ∃ ρ2 M2, forL mg body items ρ M = .nx ρ2 M2 ∧ I ρ2 M2
  | [], _, ρ, M, h => ⟨ρ, M, rfl, h⟩
  | x :: xs, hs, ρ, M, h => by
    obtain ⟨ρ1, ρ2, M2, e1, e2, h2⟩ := hs x List.mem_cons_self ρ M h
    obtain ⟨ρ3, M3, e3, h3⟩ := forL_inv I xs (fun y hy => hs y (List.mem_cons_of_mem _ hy)) ρ2 M2 h2
    exact ⟨ρ3, M3, by rw [forL_cons, e1, flK_ok, e2, flK2_nx, e3], h3⟩
/-- .. with a count -/
theorem forL_cnt {mg : VD → Env → Option Env} {body : Sx} (I : Nat → Env → Mem → Prop) (g : Nat → D) : ∀ (n k : Nat), (∀ i, k ≤ i → i < k + n → ∀ ρ M, I i ρ M → ∃ ρ1 ρ2 M2, mg (.d (g i)) ρ = some ρ1 ∧ body ρ1 M = .nx ρ2 M2 ∧ I (i + 1) ρ2 M2) → ∀ ρ M, I k ρ M → ∃ ρ2 M2, forL mg body ((List.range' k n).map g) ρ M = .nx ρ2 M2 ∧ I (k + n) ρ2 M2
  | 0, k, _, ρ, M, h => ⟨ρ, M, rfl, h⟩
  | n + 1, k, hs, ρ, M, h => by
    obtain ⟨ρ1, ρ2, M2, e1, e2, h2⟩ := hs k (by omega) (by omega) ρ M h
    obtain ⟨ρ3, M3, e3, h3⟩ := forL_cnt I g n (k + 1) (fun i h1 h3 => hs i (by omega) (by omega)) ρ2 M2 h2
    refine ⟨ρ3, M3, ?_, by rw [show k + (n + 1) = k + 1 + n by omega]; exact h3⟩
    rw [List.range'_succ, List.map_cons, forL_cons, e1, flK_ok, e2, flK2_nx, e3]
theorem range_eq (n : Nat) : range 0 n = (List.range' 0 n).map fun (i : Nat) => D.int i := by
  unfold range
  rw [List.range_eq_range']
  simp
/-- a comprehension that moves the memory -/
theorem compL_inv {turn : D → Mem → Res (Option D)} (I : Mem → Prop) (P : D → Prop) : ∀ (items acc : List D) (M : Mem), I M → (∀ x ∈ items, ∀ M, I M → ∃ y M2, turn x M = .ok (some y) M2 ∧ I M2 ∧ P y) → acc.length + items.length ≤ lim → ∃ ys M2, compL turn items M acc = .ok (acc ++ ys) M2 ∧ I M2 ∧ ys.length = items.length ∧ ∀ y ∈ ys, P y
  | [], acc, M, h, _, _ => ⟨[], M, by simp, h, rfl, by simp⟩
  | x :: xs, acc, M, h, hs, hl => by
    obtain ⟨y, M2, e, h2, hp⟩ := hs x List.mem_cons_self M h
    obtain ⟨ys, M3, e3, h3, hn, hq⟩ := compL_inv I P xs (acc ++ [y]) M2 h2 (fun z hz => hs z (List.mem_cons_of_mem _ hz)) (by simp at hl ⊢; omega)
    refine ⟨y :: ys, M3, ?_, h3, by simp [hn], by simpa using ⟨hp, hq⟩⟩
    rw [compL_cons, e, clK_some, if_pos (by simp at hl; omega), e3]
    simp
theorem cut63 {α : Type} {xs : List α} (h : xs.length ≤ 63) : cut xs none (some 63) = xs := by
  unfold cut HT.sIx
  dsimp only
  rw [if_neg (by omega)]
  have e : min (63 : Int).toNat xs.length = xs.length := by
    show min 63 xs.length = _
    omega
  rw [e]
  simp
theorem open_ok (ns : List Int) (h : ns.length ≤ 63) : ∃ b, m__law_open [.d (.scr ns)] [] = .ok (.adr 0) [mo b] ∧ BagOk b := by
  unfold m__law_open
  rw [fnM_eq]
  unfold b__law_open
  simp
  rw [cut63 (by simpa using h)]
  obtain ⟨ρ2, M2, e, x, y, r1, r2, r3, r4⟩ := forL_inv (mg := g_name 2) (body := (s_asg (e_op f_mod (e_bi f_int (a_cons (e_op f_add (e_op f_add (e_op f_mul (e_var 1) (e_c (.int 44021))) (e_op f_mul (e_op f_mod (e_bi f_int (a_cons (e_var 2) a_nil)) (e_c (.int 1000003))) (e_c (.int 853)))) (e_c (.int 23))) a_nil)) (e_c (.int 2147483587))) (g_name 1))) (fun ρ M => ∃ x : Int, ∃ y, ρ = [some (.d (.scr ns)), some (.d (.int x)), y] ∧ M = [] ∧ 0 ≤ x ∧ x < 2147483648) (ns.map D.int) (by
    intro d hd ρ M ⟨x, y, r1, r2, r3, r4⟩
    obtain ⟨c, hc, rfl⟩ := List.mem_map.mp hd
    subst r1 r2
    refine ⟨_, _, _, rfl, ?_, (x * 44021 + c % 1000003 * 853 + 23) % 2147483587, some (.d (.int c)), rfl, rfl, by omega, by omega⟩
    simp [show -18446744073709551616 < x by omega, show x < 18446744073709551616 by omega]) [some (.d (.scr ns)), some (.d (.int 4938)), none] [] ⟨4938, none, rfl, rfl, by omega, by omega⟩
  rw [e]
  subst r1 r2
  simp [lim, cut63, h]
  refine ⟨⟨ns, 0, 0, x, 0⟩, ?_, by dsimp; omega, by dsimp; omega, r3, r4⟩
  unfold trim
  rfl
theorem ofs_ok {b : Bag} (hb : BagOk b) {s : List Nat} (h0 : s ≠ []) (h1 : s.length ≤ lim) (Mr : Mem) : ∃ c b', m__law_of [.adr 0, .d (.str s)] (mo b :: Mr) = .ok (.d (.str [c])) (mo b' :: Mr) ∧ BagOk b' ∧ c ∈ s := by
  obtain ⟨v, b', e, hb', hv, hv2⟩ := draw_ok hb (many := s.length) (by have := List.length_pos_iff.mpr h0; omega) (by rw [lim_eq] at h1; omega) Mr
  have hn : v.toNat < s.length := by omega
  refine ⟨s[v.toNat], b', ?_, hb', List.getElem_mem hn⟩
  unfold m__law_of
  rw [fnM_eq]
  unfold b__law_of
  simp [e, h1]
  have := atI_nat' (l := s) (n := v.toNat) (a := s[v.toNat]) (by simp [hn])
  rw [Int.toNat_of_nonneg hv] at this
  simp [this, h1]
  rw [trim_same (by simp)]
theorem letters_ok {b : Bag} (hb : BagOk b) {s : List Nat} {many : Nat} (h : many ≤ s.length) (h1 : s.length ≤ 1000) (Mr : Mem) : ∃ t b', m__law_letters [.adr 0, .d (.str s), .d (.int many)] (mo b :: Mr) = .ok (.d (.str t)) (mo b' :: Mr) ∧ BagOk b' ∧ t.Sublist s ∧ t.length = many := by
  unfold m__law_letters
  rw [fnM_eq]
  unfold b__law_letters
  simp [lim]
  rw [rngK1_nat (by rw [lim_eq]; omega)]
  simp
  rw [range_eq]
  obtain ⟨ρ2, M2, e, x3, t, low, x6, b', r1, r2, r3, r4, r5, r6⟩ := forL_cnt (mg := g_name 3) (body := (s_seq (s_asg (e_op f_add (e_var 5) (e_call 2 m__law_draw (a_cons (e_var 0) (a_cons (e_op f_sub (e_op f_sub (e_bi f_len (a_cons (e_var 1) a_nil)) (e_var 5)) (e_op f_sub (e_op f_sub (e_var 2) (e_c (.int 1))) (e_var 3))) a_nil)))) (g_name 6))
    (s_par 4 5 (a_cons (e_op f_add (e_var 4) (e_op f_ix (e_var 1) (e_var 6))) (a_cons (e_op f_add (e_var 6) (e_c (.int 1))) a_nil))))) (fun k ρ M => ∃ x3 t, ∃ low : Nat, ∃ x6 b', ρ = [some (.adr 0), some (.d (.str s)), some (.d (.int many)), x3, some (.d (.str t)), some (.d (.int low)), x6] ∧ M = mo b' :: Mr ∧ BagOk b' ∧ t.Sublist (s.take low) ∧ t.length = k ∧ low + many ≤ s.length + k) (fun (i : Nat) => D.int i) many 0 (by
    intro k _ hk ρ M ⟨x3, t, low, x6, b', r1, r2, r3, r4, r5, r6⟩
    subst r1 r2
    obtain ⟨v, b2, e, hb2, hv, hv2⟩ := draw_ok r3 (many := (s.length : Int) - low - (many - 1 - k)) (by omega) (by omega) Mr
    obtain ⟨n, rfl⟩ := Int.eq_ofNat_of_zero_le hv
    have hn : low + n < s.length := by omega
    refine ⟨_, _, _, rfl, ?_, some (.d (.int k)), t ++ [s[low + n]], low + n + 1, some (.d (.int (low + n))), b2, rfl, rfl, hb2, ?_, by simp [r5], by omega⟩
    · have := atI_nat' (l := s) (n := low + n) (a := s[low + n]) (by simp [hn])
      rw [Int.natCast_add] at this
      have hl : t.length ≤ s.length := Nat.le_trans r4.length_le (by simp; omega)
      simp [lim, e, show s.length ≤ 1000000 by omega, this, show t.length + 1 ≤ 1000000 by omega]
    · rw [List.take_succ_eq_append_getElem hn]
      exact List.Sublist.append (r4.trans (List.take_sublist_take_left (by omega))) (List.Sublist.refl _)) _ (mo b :: Mr) ⟨none, [], 0, none, b, rfl, rfl, hb, by simp, rfl, by omega⟩
  rw [show ((0 : Nat) : Int) = 0 from rfl] at e
  rw [e]
  subst r1 r2
  simp
  rw [trim_same (by simp)]
  exact ⟨t, b', rfl, r3, r4.trans (List.take_sublist _ _), by simpa using r5⟩
end G
namespace G
open PySem PySem.Spec PyProof.Rows L2
theorem compL_mapA {α : Type} {turn : D → Mem → Res (Option D)} {M : Mem} (f g : α → D) : ∀ (xs : List α) (acc : List D), (∀ x ∈ xs, turn (f x) M = .ok (some (g x)) M) → acc.length + xs.length ≤ lim → compL turn (xs.map f) M acc = .ok (acc ++ xs.map g) M
  | [], acc, _, _ => by simp
  | x :: xs, acc, h, hl => by
    rw [List.map_cons, compL_cons, h x List.mem_cons_self, clK_some, if_pos (by simp at hl; omega), compL_mapA f g xs _ (fun y hy => h y (List.mem_cons_of_mem _ hy)) (by simp at hl ⊢; omega)]
    simp
theorem compL_filterA {α : Type} {turn : D → Mem → Res (Option D)} {M : Mem} (p : α → Bool) (f g : α → D) : ∀ (xs : List α) (acc : List D), (∀ x ∈ xs, turn (f x) M = .ok (if p x then some (g x) else none) M) → acc.length + xs.length ≤ lim → compL turn (xs.map f) M acc = .ok (acc ++ (xs.filter p).map g) M
  | [], acc, _, _ => by simp
  | x :: xs, acc, h, hl => by
    rw [List.map_cons, compL_cons, h x List.mem_cons_self]
    cases q : p x with
    | true =>
      rw [if_pos rfl, clK_some, if_pos (by simp at hl; omega), compL_filterA p f g xs _ (fun y hy => h y (List.mem_cons_of_mem _ hy)) (by simp at hl ⊢; omega)]
      simp [q]
    | false =>
      rw [if_neg Bool.false_ne_true, clK_none, compL_filterA p f g xs _ (fun y hy => h y (List.mem_cons_of_mem _ hy)) (by simp at hl ⊢; omega)]
      simp [q]
theorem zipL_self : ∀ xs : List D, zipL xs xs = xs.map fun x => .tup [x, x]
  | [] => rfl
  | x :: xs => by rw [zipL, zipL_self xs, List.map_cons]
theorem pl_mem {n : Nat} : ∀ {xs : List D}, D.plA n xs = true → ∀ x ∈ xs, D.pl n x = true
  | [], _, x, h => by cases h
  | y :: ys, h, x, hx => by
    rw [plA_cons, Bool.and_eq_true] at h
    rcases List.mem_cons.mp hx with rfl | hx
    · exact h.1
    · exact pl_mem h.2 x hx
/-- lists and tuples no longer than the limit -/
inductive Sz : D → Prop
  | non : Sz .non
  | bl {b} : Sz (.bl b)
  | int {b} : Sz (.int b)
  | str {b} : Sz (.str b)
  | lst {xs : List D} : xs.length ≤ lim → (∀ x ∈ xs, Sz x) → Sz (.lst xs)
  | tup {xs : List D} : xs.length ≤ lim → (∀ x ∈ xs, Sz x) → Sz (.tup xs)
theorem same_lst {rec : List VD → Mem → Res VD} {M : Mem} {xs : List D} (d : D) (h : ∀ x ∈ xs, rec [.d x, .d x] M = .ok (.d (.bl true)) M) (hl : xs.length ≤ lim) : compL (cTurn [2, 3] (g_tup 2 (g_cons (g_name 2) (g_cons (g_name 3) g_nil))) e_yes (e_call 2 rec (a_cons (e_var 2) (a_cons (e_var 3) a_nil))) [some (.d d), some (.d d), none, none]) (zipL xs xs) M [] = .ok (xs.map fun _ => .bl true) M := by
  rw [zipL_self, compL_mapA (fun x => .tup [x, x]) (fun _ => .bl true) xs [] (fun x hx => ?_) (by simpa using hl)]
  · simp
  · simp [h x hx]
theorem same_ok : ∀ (n : Nat) (d : D) (M : Mem), D.pl n d = true → n ≤ 20 → Sz d → m__law_same (n + 1) [.d d, .d d] M = .ok (.d (.bl true)) M := by
  intro n
  induction n with
  | zero =>
    intro d M h hn hs
    unfold m__law_same
    rw [fnM_eq]
    unfold b__law_same
    cases d with
    | non => simp
    | bl b => simp
    | int i => simp
    | str s => simp
    | obj c fs => simp [D.pl] at h
    | scr ns => simp [D.pl] at h
    | clo k => simp [D.pl] at h
    | exn c fs => simp [D.pl] at h
    | pv a => simp [D.pl] at h
    | dck _ _ => simp [D.pl] at h
    | dcp _ _ => simp [D.pl] at h
    | lst xs => simp [D.pl] at h
    | tup xs => simp [D.pl] at h
  | succ n ih =>
    intro d M h hn hs
    unfold m__law_same
    rw [fnM_eq]
    unfold b__law_same
    cases d with
    | non => simp
    | bl b => simp
    | int i => simp
    | str s => simp
    | obj c fs => simp [D.pl] at h
    | scr ns => simp [D.pl] at h
    | clo k => simp [D.pl] at h
    | exn c fs => simp [D.pl] at h
    | pv a => simp [D.pl] at h
    | dck _ _ => simp [D.pl] at h
    | dcp _ _ => simp [D.pl] at h
    | lst xs =>
      cases hs with
      | lst h1 h2 =>
        simp
        rw [same_lst (.lst xs) (fun x hx => ih x M (pl_mem h x hx) (by omega) (h2 x hx)) h1]
        simp [blL_map (fun _ => true)]
    | tup xs =>
      cases hs with
      | tup h1 h2 =>
        simp
        rw [same_lst (.tup xs) (fun x hx => ih x M (pl_mem h x hx) (by omega) (h2 x hx)) h1]
        simp [blL_map (fun _ => true)]
theorem chars_of {t : List Nat} : ∀ {ys : List D}, (∀ y ∈ ys, ∃ c ∈ t, y = .str [c]) → ∃ s : List Nat, ys = chars s ∧ ∀ c ∈ s, c ∈ t
  | [], _ => ⟨[], rfl, by simp⟩
  | y :: ys, h => by
    obtain ⟨c, hc, rfl⟩ := h y List.mem_cons_self
    obtain ⟨s, rfl, hs⟩ := chars_of (ys := ys) fun z hz => h z (List.mem_cons_of_mem _ hz)
    exact ⟨c :: s, rfl, by simpa using ⟨hc, hs⟩⟩
theorem stL_chars (s : List Nat) : stL (chars s) = some (s.map fun c => [c]) := stL_map (fun c => [c]) s
theorem szs_chars : ∀ s : List Nat, szs (s.map fun c => [c]) = s.length
  | [] => rfl
  | c :: s => by simp [szs, szs_chars s]; omega
theorem joinL_nil : ∀ ss : List (List Nat), TL.joinL [] ss = ss.flatten
  | [] => rfl
  | [s] => by simp [TL.joinL]
  | s :: t :: r => by
    simp [TL.joinL, joinL_nil (t :: r)]
theorem flat_chars : ∀ s : List Nat, (s.map fun c => [c]).flatten = s
  | [] => rfl
  | c :: s => by simp [flat_chars s]
theorem cut_take {α : Type} {xs : List α} {n : Nat} (h : n ≤ xs.length) : cut xs none (some (n : Int)) = xs.take n := by
  unfold cut HT.sIx
  dsimp only
  rw [if_neg (by omega)]
  simp [Nat.min_eq_left h]
theorem cut_drop {α : Type} {xs : List α} {n : Nat} (h : n ≤ xs.length) : cut xs (some (n : Int)) none = xs.drop n := by
  unfold cut HT.sIx
  dsimp only
  rw [if_neg (by omega)]
  simp [Nat.min_eq_left h]
  rw [List.take_of_length_le (by simp)]
theorem f_join_chars {s : List Nat} {M : Mem} : f_join (.d (.str [])) (.d (.lst (chars s))) M = if s.length ≤ lim then .ok (.d (.str s)) M else .fail := by
  rw [f_join_l, stL_chars, joinK_ok, szs_chars, joinL_nil, flat_chars]
  simp
end G
namespace G
open PySem PySem.Spec PyProof.Rows L2
abbrev azL : List Nat := [97, 98, 99, 100, 101, 102, 103, 104, 105, 106, 107, 108, 109, 110, 111, 112, 113, 114, 115, 116, 117, 118, 119, 120, 121, 122]
theorem some_kinds_ok {b : Bag} (hb : BagOk b) {most : Int} (h0 : 0 < most) (h : most ≤ 26) (Mr : Mem) : ∃ t b', m__law_some_kinds [.adr 0, .d (.int most)] (mo b :: Mr) = .ok (.d (.str t)) (mo b' :: Mr) ∧ BagOk b' ∧ t.Sublist azL ∧ 1 ≤ t.length ∧ (t.length : Int) ≤ most := by
  obtain ⟨v, b1, e1, hb1, hv, hv2⟩ := draw_ok hb (many := most) (by omega) (by omega) Mr
  obtain ⟨n, rfl⟩ := Int.eq_ofNat_of_zero_le hv
  obtain ⟨t, b2, e2, hb2, ht, hn⟩ := letters_ok hb1 (s := azL) (many := 1 + n) (by show 1 + n ≤ 26; omega) (by show 26 ≤ 1000; omega) Mr
  rw [Int.natCast_add] at e2
  refine ⟨t, b2, ?_, hb2, ht, by omega, by omega⟩
  unfold m__law_some_kinds
  rw [fnM_eq]
  unfold b__law_some_kinds
  simp [e1]
  erw [e2]
  simp
  rw [trim_same (by simp)]
theorem is_string_s (s t : List Nat) (M : Mem) (h : s.length ≤ lim) : m_is_string [.d (.str s), .d (.str t)] M = .ok (.d (.bl (s.all fun c => decide (c ∈ t)))) M := by
  unfold m_is_string
  rw [fnM_eq]
  unfold b_is_string
  simp
  rw [chars, compL_mapA (fun c => D.str [c]) (fun c => .bl (decide (c ∈ t))) s [] (fun x hx => by simp) (by simpa using h)]
  simp [blL_map (fun c => decide (c ∈ t))]
theorem is_row_s (s t : List Nat) (M : Mem) (h : s.length ≤ lim) : m_is_row [.d (.str s), .d (.str t)] M = .ok (.d (.bl ((s.all fun c => decide (c ∈ t)) && decide ((s.length : Int) ≤ 16)))) M := by
  unfold m_is_row
  rw [fnM_eq]
  unfold b_is_row
  simp [is_string_s s t M h]
  cases (s.all fun c => decide (c ∈ t)) <;> simp [h]
theorem is_word_s (s t : List Nat) (M : Mem) (h : s.length ≤ lim) : m_is_word [.d (.str s), .d (.str t)] M = .ok (.d (.bl ((s.all fun c => decide (c ∈ t)) && decide ((s.length : Int) ≤ 3)))) M := by
  unfold m_is_word
  rw [fnM_eq]
  unfold b_is_word
  simp [is_string_s s t M h]
  cases (s.all fun c => decide (c ∈ t)) <;> simp [h]
theorem is_gap_2 (a b : Nat) (t : List Nat) (M : Mem) (h : t.length + 1 ≤ lim) : m_is_gap [.d (.str [a, b]), .d (.str t)] M = .ok (.d (.bl (decide (a ∈ 60 :: t) && decide (b ∈ t ++ [62])))) M := by
  unfold m_is_gap
  rw [fnM_eq]
  unfold b_is_gap
  have q : 2 ≤ lim := by decide
  have h' : 1 + t.length ≤ lim := by omega
  simp [q, h, h']
  cases (decide (a = 60) || decide (a ∈ t)) with
  | false => simp
  | true => simp [q, h, h']
end G
namespace G
open PySem PySem.Spec PyProof.Rows L2
abbrev AZL : List Nat := [65, 66, 67, 68, 69, 70, 71, 72, 73, 74, 75, 76, 77, 78, 79, 80, 81, 82, 83, 84, 85, 86, 87, 88, 89, 90]
theorem az_lt : azL.Pairwise (· < ·) := by decide
theorem AZ_lt : AZL.Pairwise (· < ·) := by decide
theorem some_comers_ok {b : Bag} (hb : BagOk b) {most : Int} (h0 : 0 < most) (h : most ≤ 26) (Mr : Mem) : ∃ t b', m__law_some_comers [.adr 0, .d (.int most)] (mo b :: Mr) = .ok (.d (.str t)) (mo b' :: Mr) ∧ BagOk b' ∧ t.Sublist AZL ∧ 1 ≤ t.length ∧ (t.length : Int) ≤ most := by
  obtain ⟨v, b1, e1, hb1, hv, hv2⟩ := draw_ok hb (many := most) (by omega) (by omega) Mr
  obtain ⟨n, rfl⟩ := Int.eq_ofNat_of_zero_le hv
  obtain ⟨t, b2, e2, hb2, ht, hn⟩ := letters_ok hb1 (s := AZL) (many := 1 + n) (by show 1 + n ≤ 26; omega) (by show 26 ≤ 1000; omega) Mr
  rw [Int.natCast_add] at e2
  refine ⟨t, b2, ?_, hb2, ht, by omega, by omega⟩
  unfold m__law_some_comers
  rw [fnM_eq]
  unfold b__law_some_comers
  simp [e1]
  erw [e2]
  simp
  rw [trim_same (by simp)]
theorem is_number_i (v l h : Int) (M : Mem) : m_is_number [.d (.int v), .d (.int l), .d (.int h)] M = .ok (.d (.bl (decide (l ≤ v) && decide (v ≤ h)))) M := by
  unfold m_is_number
  rw [fnM_eq]
  unfold b_is_number
  simp
  cases (decide (l ≤ v)) <;> simp
theorem plA_chars {n : Nat} : ∀ s : List Nat, D.plA n (s.map fun c => .str [c]) = true
  | [] => by simp
  | c :: s => by simp [plA_chars s]
theorem eqvA_chars : ∀ s t : List Nat, D.eqvA (s.map fun c => .str [c]) (t.map fun c => .str [c]) = (s == t)
  | [], [] => rfl
  | [], _ :: _ => rfl
  | _ :: _, [] => rfl
  | a :: s, b :: t => by simp [eqvA_chars s t]
/-- rising letters of L, at most n -/
def rk (L : List Nat) (n : Nat) (s : List Nat) : Bool := decide (1 ≤ s.length) && decide (s.length ≤ n) && s.all (fun c => decide (c ∈ L)) && (s == sortU s)
theorem rk_iff {L : List Nat} {n : Nat} {s : List Nat} : rk L n s = true ↔ 1 ≤ s.length ∧ s.length ≤ n ∧ (∀ c ∈ s, c ∈ L) ∧ s.Pairwise (· < ·) := by
  unfold rk
  simp [and_assoc]
  intro _ _ _
  exact ⟨fun h => by rw [h]; exact sortU_lt s, fun h => (sortU_self h).symm⟩
theorem is_rising_s (s t : List Nat) (n : Nat) (hn : n ≤ 60) (M : Mem) (h : s.length ≤ lim) : m_is_rising [.d (.str s), .d (.str t), .d (.int n)] M = .ok (.d (.bl (rk t n s))) M := by
  unfold m_is_rising
  rw [fnM_eq]
  unfold b_is_rising rk
  simp [h]
  by_cases h1 : (1 : Int) ≤ s.length
  · by_cases h2 : (s.length : Int) ≤ n
    · simp [h1, h2]
      rw [chars, compL_mapA (fun c => D.str [c]) (fun c => .bl (decide (c ∈ t))) s [] (fun x hx => by simp) (by simpa using h)]
      simp [blL_map (fun c => decide (c ∈ t))]
      rw [show decide (1 ≤ s.length) = true by simpa using (show 1 ≤ s.length by omega), show decide (s.length ≤ n) = true by simpa using (show s.length ≤ n by omega)]
      simp only [Function.comp_def, Bool.true_and, id]
      cases (s.all fun c => decide (c ∈ t)) with
      | false => simp
      | true => simp [h, show s.length < 63 by omega, plA_chars, eqvA_chars]
    · rw [show decide (s.length ≤ n) = false by simpa using (show ¬ s.length ≤ n by omega)]
      simp [h1, h2]
  · rw [show decide (1 ≤ s.length) = false by simpa using (show ¬ 1 ≤ s.length by omega)]
    simp [h1]
theorem is_kinds_s (s : List Nat) (M : Mem) (h : s.length ≤ lim) : m_is_kinds [.d (.str s)] M = .ok (.d (.bl (rk azL 6 s))) M := by
  unfold m_is_kinds
  rw [fnM_eq]
  unfold b_is_kinds
  have := is_rising_s s azL 6 (by omega) M h
  simp at this
  simp [this]
theorem is_comers_s (s : List Nat) (M : Mem) (h : s.length ≤ lim) : m_is_comers [.d (.str s)] M = .ok (.d (.bl (rk AZL 4 s))) M := by
  unfold m_is_comers
  rw [fnM_eq]
  unfold b_is_comers
  have := is_rising_s s AZL 4 (by omega) M h
  simp at this
  simp [this]
theorem sub_rk {L t : List Nat} {n : Nat} (hL : L.Pairwise (· < ·)) (h : t.Sublist L) (h1 : 1 ≤ t.length) (h2 : t.length ≤ n) : rk L n t = true :=
  rk_iff.mpr ⟨h1, h2, fun c hc => h.subset hc, hL.sublist h⟩
end G
namespace G
open PySem PySem.Spec PyProof.Rows L2
@[simp] theorem get_last {M : Mem} {x : MO} : (M ++ [x])[M.length]? = some x := by simp
@[simp] theorem set_last {M : Mem} {x y : MO} : (M ++ [x]).set M.length y = M ++ [y] := by simp
def fldK (tab : Nat → Option Nat) (r : Res VD) : Res VD := r.bind (f_fld tab)
@[simp] theorem e_fld_eq {tab m ρ M} : e_fld tab m ρ M = fldK tab (m ρ M) := nrfl rfl
@[simp] theorem fldK_ok {tab v M} : fldK tab (.ok v M) = f_fld tab v M := nrfl rfl
@[simp] theorem f_fld_obj {c i : Nat} {fs : List D} {M} : f_fld (tb c i) (.d (.obj c fs)) M = ixK (fs[i]?) M := by
  unfold f_fld tb ixK
  simp
  all_goals (cases fs[i]? <;> rfl)
def fldA (c i : Nat) (o : Option MO) (M : Mem) : Res VD := match o with
  | some (.ins c' fs) => if c' = c then match fs[i]? with
    | some d => .ok d M
    | none => .fail
    else .fail
  | _ => .fail
@[simp] theorem f_fld_adr {c i j : Nat} {M : Mem} : f_fld (tb c i) (.adr j) M = fldA c i (M[j]?) M := by
  unfold f_fld tb fldA
  dsimp only
  all_goals (
    cases M[j]? with
    | none => rfl
    | some o =>
      cases o with
      | dead => rfl
      | lst _ => rfl
      | lsv _ => rfl
      | dck _ => rfl
      | dcp _ => rfl
      | ins c' fs =>
        dsimp only
        by_cases h : c' = c
        · simp [h]
          all_goals (cases fs[i]? <;> rfl)
        · simp [h])
def sfldK (tab : Nat → Option Nat) (r : Res VD) (o : Mx VD) (ρ : Env) : Out := r.out fun v M1 => (o ρ M1).out fun x M2 => (f_put tab v x M2).out fun _ M3 => .nx ρ M3
def sfldK2 (tab : Nat → Option Nat) (v : VD) (r : Res VD) (ρ : Env) : Out := r.out fun x M2 => (f_put tab v x M2).out fun _ M3 => .nx ρ M3
def sfldK3 (r : Res Unit) (ρ : Env) : Out := r.out fun _ M3 => .nx ρ M3
@[simp] theorem s_fld_eq {tab m o ρ M} : s_fld tab m o ρ M = sfldK tab (m ρ M) o ρ := nrfl rfl
@[simp] theorem sfldK_ok {tab v M o ρ} : sfldK tab (.ok v M) o ρ = sfldK2 tab v (o ρ M) ρ := nrfl rfl
@[simp] theorem sfldK2_ok {tab v x M ρ} : sfldK2 tab v (.ok x M) ρ = sfldK3 (f_put tab v x M) ρ := nrfl rfl
@[simp] theorem sfldK3_ok {M ρ} : sfldK3 (.ok () M) ρ = .nx ρ M := nrfl rfl
def putK (c i : Nat) (v : VD) (j : Nat) (M : Mem) (o : Option MO) : Res Unit := match o with
  | some (.ins c' fs) => if c' = c then if i ≤ fs.length then .ok () (M.set j (.ins c (if i < fs.length then fs.set i v else fs ++ [v]))) else .fail else .fail
  | _ => .fail
@[simp] theorem f_put_eq {c i j : Nat} {v : VD} {M : Mem} : f_put (tb c i) v (.adr j) M = putK c i v j M (M[j]?) := by
  unfold f_put tb putK
  dsimp only
  all_goals (
    cases M[j]? with
    | none => rfl
    | some o =>
      cases o with
      | dead => rfl
      | lst _ => rfl
      | lsv _ => rfl
      | dck _ => rfl
      | dcp _ => rfl
      | ins c' fs =>
        dsimp only
        by_cases h : c' = c
        · simp [h]
        · simp [h])
@[simp] theorem putK_ok {c i : Nat} {v : VD} {j : Nat} {M : Mem} {fs : List VD} : putK c i v j M (some (.ins c fs)) = if i ≤ fs.length then .ok () (M.set j (.ins c (if i < fs.length then fs.set i v else fs ++ [v]))) else .fail := by
  unfold putK
  simp
def starK (r : Res VD) (rs : Mx (List VD)) (ρ : Env) : Res (List VD) := r.bind fun v M1 => match seqOf M1 v with
  | some ds => (rs ρ M1).bind fun vs M2 => .ok (ds.map .d ++ vs) M2
  | none => .fail
def starK1 (o : Option (List D)) (rs : Mx (List VD)) (ρ : Env) (M1 : Mem) : Res (List VD) := match o with
  | some ds => (rs ρ M1).bind fun vs M2 => .ok (ds.map .d ++ vs) M2
  | none => .fail
def starK2 (ds : List D) (r : Res (List VD)) : Res (List VD) := r.bind fun vs M2 => .ok (ds.map .d ++ vs) M2
@[simp] theorem a_star_eq {a r ρ M} : a_star a r ρ M = starK (a ρ M) r ρ := nrfl rfl
@[simp] theorem starK_ok {v M rs ρ} : starK (.ok v M) rs ρ = starK1 (seqOf M v) rs ρ M := nrfl rfl
@[simp] theorem starK1_ok {ds rs ρ M} : starK1 (some ds) rs ρ M = starK2 ds (rs ρ M) := nrfl rfl
@[simp] theorem starK2_ok {ds vs M} : starK2 ds (.ok vs M) = .ok (ds.map .d ++ vs) M := nrfl rfl
@[simp] theorem seqOf_l {M ds} : seqOf M (.d (.lst ds)) = some ds := nrfl rfl
@[simp] theorem seqOf_t {M ds} : seqOf M (.d (.tup ds)) = some ds := nrfl rfl
def sqK (o : Option MO) : Option (List D) := match o with
  | some (.lst ds) => some ds
  | _ => none
@[simp] theorem seqOf_a {M : Mem} {i : Nat} : seqOf M (.adr i) = sqK (M[i]?) := by
  unfold seqOf sqK
  dsimp only
  all_goals (
    cases M[i]? with
    | none => rfl
    | some m => cases m <;> rfl)
@[simp] theorem sqK_ok {ds} : sqK (some (.lst ds)) = some ds := nrfl rfl
@[simp] theorem dats_map {ds : List D} : dats (ds.map .d) = some ds := by
  induction ds with
  | nil => rfl
  | cons x r ih => rw [List.map_cons, dats_cons, ih]; rfl
theorem dats_app {xs : List D} {ys : List VD} : dats (xs.map .d ++ ys) = (dats ys).map (xs ++ ·) := by
  induction xs with
  | nil => simp
  | cons x r ih =>
    rw [List.map_cons, List.cons_append, dats_cons, ih]
    cases dats ys <;> simp
@[simp] theorem dats_app1 {xs : List D} {y : D} : dats (xs.map .d ++ [.d y]) = some (xs ++ [y]) := by simp [dats_app]
def jK (r : Res VD) (mj : List Nat → Mx (List Nat)) (acc : List Nat) (ρ : Env) : Res (List Nat) := r.bind fun v M1 => match v with
  | .d (.str s) => if acc.length + s.length ≤ lim then mj (acc ++ s) ρ M1 else .fail
  | _ => .fail
@[simp] theorem j_nil_eq {acc ρ M} : j_nil acc ρ M = .ok acc M := nrfl rfl
@[simp] theorem j_cons_eq {m mj acc ρ M} : j_cons m mj acc ρ M = jK (m ρ M) mj acc ρ := nrfl rfl
@[simp] theorem jK_ok {s M mj acc ρ} : jK (.ok (.d (.str s)) M) mj acc ρ = if acc.length + s.length ≤ lim then mj (acc ++ s) ρ M else .fail := nrfl rfl
def fstrK (r : Res (List Nat)) : Res VD := r.bind fun s M1 => .ok (.d (.str s)) M1
@[simp] theorem e_fstr_eq {mj ρ M} : e_fstr mj ρ M = fstrK (mj [] ρ M) := nrfl rfl
@[simp] theorem fstrK_ok {s M} : fstrK (.ok s M) = .ok (.d (.str s)) M := nrfl rfl
noncomputable def fmtK (r : Res VD) : Res VD := r.bind f_fmt
@[simp] theorem e_fmt_eq {m ρ M} : e_fmt m ρ M = fmtK (m ρ M) := nrfl rfl
@[simp] theorem fmtK_s {s M} : fmtK (.ok (.d (.str s)) M) = if s.length ≤ lim then .ok (.d (.str s)) M else .fail := nrfl rfl
@[simp] theorem fmtK_i {i M} : fmtK (.ok (.d (.int i)) M) = gi (i.natAbs.log2 < 1920) (.ok (.d (.str (itoa i))) M) .fail := nrfl rfl
@[simp] theorem f_str_i {i M} : f_str [.d (.int i)] M = gi (i.natAbs.log2 < 1920) (.ok (.d (.str (itoa i))) M) .fail := nrfl rfl
def enumAK (r : Res (List VD)) : Res (List D) := r.bind enumI
@[simp] theorem i_enumA_eq {ms ρ M} : i_enumA ms ρ M = enumAK (ms ρ M) := nrfl rfl
@[simp] theorem enumAK_l {ds M} : enumAK (.ok [.d (.lst ds)] M) = .ok (enumL ds 0) M := nrfl rfl
@[simp] theorem enumAK_t {ds M} : enumAK (.ok [.d (.tup ds)] M) = .ok (enumL ds 0) M := nrfl rfl
def callPK (m : List VD → Mem → Res VD) (r : Res (List VD)) : Res VD := r.bind m
@[simp] theorem e_callP_eq {m ms ρ M} : e_callP m ms ρ M = callPK m (ms ρ M) := nrfl rfl
@[simp] theorem callPK_ok {m vs M} : callPK m (.ok vs M) = m vs M := nrfl rfl
@[simp] theorem ar_ok {n m} {vs : List VD} {M} (h : vs.length = n) : ar n m vs M = m vs M := if_pos h
def methK (c : Nat) (m : List VD → Mem → Res VD) (r : Res VD) (ms : Mx (List VD)) (ρ : Env) : Res VD := r.bind fun x M1 => if isC c M1 x then (ms ρ M1).bind fun vs M2 => m (x :: vs) M2 else .fail
def methK1 (b : Bool) (m : List VD → Mem → Res VD) (x : VD) (r : Res (List VD)) : Res VD := if b then r.bind fun vs M2 => m (x :: vs) M2 else .fail
@[simp] theorem e_meth_eq {c m mo ms ρ M} : e_meth c m mo ms ρ M = methK c m (mo ρ M) ms ρ := nrfl rfl
@[simp] theorem methK_ok {c m x M ms ρ} : methK c m (.ok x M) ms ρ = methK1 (isC c M x) m x (ms ρ M) := nrfl rfl
@[simp] theorem methK1_ok {m x vs M} : methK1 true m x (.ok vs M) = m (x :: vs) M := nrfl rfl
@[simp] theorem isC_obj {c c' : Nat} {fs M} : isC c M (.d (.obj c' fs)) = (c' == c) := nrfl rfl
@[simp] theorem isC_non {c M} : isC c M (.d .non) = false := nrfl rfl
@[simp] theorem isC_bl {c x M} : isC c M (.d (.bl x)) = false := nrfl rfl
@[simp] theorem isC_int {c x M} : isC c M (.d (.int x)) = false := nrfl rfl
@[simp] theorem isC_str {c x M} : isC c M (.d (.str x)) = false := nrfl rfl
@[simp] theorem isC_lst {c x M} : isC c M (.d (.lst x)) = false := nrfl rfl
@[simp] theorem isC_tup {c x M} : isC c M (.d (.tup x)) = false := nrfl rfl
def isCA (c : Nat) (o : Option MO) : Bool := match o with
  | some (.ins c' _) => c' == c
  | _ => false
@[simp] theorem isC_adr {c j : Nat} {M : Mem} : isC c M (.adr j) = isCA c (M[j]?) := by
  unfold isC isCA
  dsimp only
  all_goals (
    cases M[j]? with
    | none => rfl
    | some m => cases m <;> rfl)
@[simp] theorem isCA_ins {c c' : Nat} {fs} : isCA c (some (.ins c' fs)) = (c' == c) := nrfl rfl
@[simp] theorem isCA_lst {c : Nat} {fs} : isCA c (some (.lst fs)) = false := nrfl rfl
def isCK (c : Nat) (r : Res VD) : Res VD := r.bind (f_isC c)
@[simp] theorem e_isC_eq {c m ρ M} : e_isC c m ρ M = isCK c (m ρ M) := nrfl rfl
theorem isCK_obj {c c' : Nat} {fs M} (h : c' = c) : isCK c (.ok (.d (.obj c' fs)) M) = .ok (.d (.bl true)) M := by
  subst h
  show f_isC c' _ M = _
  unfold f_isC
  simp
@[simp] theorem isCK_self {c : Nat} {fs M} : isCK c (.ok (.d (.obj c fs)) M) = .ok (.d (.bl true)) M := isCK_obj rfl
@[simp] theorem isCK_non {c M} : isCK c (.ok (.d .non) M) = .ok (.d (.bl false)) M := nrfl rfl
@[simp] theorem isCK_bl {c x M} : isCK c (.ok (.d (.bl x)) M) = .ok (.d (.bl false)) M := nrfl rfl
@[simp] theorem isCK_int {c x M} : isCK c (.ok (.d (.int x)) M) = .ok (.d (.bl false)) M := nrfl rfl
@[simp] theorem isCK_str {c x M} : isCK c (.ok (.d (.str x)) M) = .ok (.d (.bl false)) M := nrfl rfl
@[simp] theorem isCK_lst {c x M} : isCK c (.ok (.d (.lst x)) M) = .ok (.d (.bl false)) M := nrfl rfl
@[simp] theorem isCK_tup {c x M} : isCK c (.ok (.d (.tup x)) M) = .ok (.d (.bl false)) M := nrfl rfl
def ownK (ck : VD → Mem → Res VD) (r : Res VD) : Res VD := r.bind ck
@[simp] theorem f_own_eq {c n m ck x r M} : f_own c n m ck (x :: r) M = if isC c M x && r.length + 1 == n then ownK ck (m (x :: r) M) else .fail := nrfl rfl
@[simp] theorem ownK_ok {ck v M} : ownK ck (.ok v M) = ck v M := nrfl rfl
@[simp] theorem ckBl_ok {neg b M} : ckBl neg (.d (.bl b)) M = .ok (.d (.bl (b != neg))) M := nrfl rfl
@[simp] theorem ckStr_ok {b M} : ckStr (.d (.str b)) M = .ok (.d (.str b)) M := nrfl rfl
@[simp] theorem f_eqO_eq {c m neg a b M} : f_eqO c m neg a b M = if eqTy c M b then f_own c 2 m (ckBl neg) [a, b] M else .fail := nrfl rfl
@[simp] theorem eqTy_non {c M} : eqTy c M (.d .non) = true := nrfl rfl
@[simp] theorem eqTy_bl {c M x} : eqTy c M (.d (.bl x)) = true := nrfl rfl
@[simp] theorem eqTy_int {c M x} : eqTy c M (.d (.int x)) = true := nrfl rfl
@[simp] theorem eqTy_str {c M x} : eqTy c M (.d (.str x)) = true := nrfl rfl
@[simp] theorem eqTy_lst {c M x} : eqTy c M (.d (.lst x)) = true := nrfl rfl
@[simp] theorem eqTy_tup {c M x} : eqTy c M (.d (.tup x)) = true := nrfl rfl
@[simp] theorem eqTy_obj {c c' : Nat} {M x} : eqTy c M (.d (.obj c' x)) = (c' == c) := nrfl rfl
def makeV (c k : Nat) (m : List VD → Mem → Res VD) (vs : List VD) (M1 : Mem) : Res VD := (mkI c m vs M1).bind fun _ M2 => frzI c k M1.length M2
def makeK (c k : Nat) (m : List VD → Mem → Res VD) (r : Res (List VD)) : Res VD := r.bind fun vs M1 => (mkI c m vs M1).bind fun _ M2 => frzI c k M1.length M2
@[simp] theorem e_make_eq {c k m ms ρ M} : e_make c k m ms ρ M = makeK c k m (ms ρ M) := nrfl rfl
@[simp] theorem makeK_ok {c k m vs M} : makeK c k m (.ok vs M) = makeV c k m vs M := nrfl rfl
theorem makeV_ok {c k : Nat} {m vs} {M : Mem} {ds : List D} (h : m (.adr M.length :: vs) (M ++ [.ins c []]) = .ok (.d .non) (M ++ [.ins c (ds.map .d)])) (hk : ds.length = k) : makeV c k m vs M = .ok (.d (.obj c ds)) (M ++ [.dead]) := by
  unfold makeV mkI
  rw [h]
  show frzI c k M.length (M ++ [.ins c (ds.map .d)]) = _
  unfold frzI
  rw [get_last]
  dsimp only
  rw [dats_map]
  dsimp only
  rw [if_pos ⟨rfl, hk⟩, set_last]
def compNK2 (r : Res (List D)) : Res VD := r.bind finN
def compNK (r : Res (List D)) (turn : D → Mem → Res (Option D)) : Res VD := r.bind fun items M1 => (compL turn items M1 []).bind finN
@[simp] theorem e_compN_eq {vs mi mg mt me ρ M} : e_compN vs mi mg mt me ρ M = compNK (mi ρ M) (cTurn vs mg mt me ρ) := nrfl rfl
@[simp] theorem compNK_ok {items M turn} : compNK (.ok items M) turn = compNK2 (compL turn items M []) := nrfl rfl
@[simp] theorem compNK2_ok {ds} {M : Mem} : compNK2 (.ok ds M) = .ok (.adr M.length) (M ++ [.lst ds]) := nrfl rfl
@[simp] theorem f_split_eq {a b M} : f_split (.d (.str a)) (.d (.str b)) M = if b.length ≠ 0 ∧ a.length + 2 ≤ lim then .ok (.d (.lst ((splitS a b).map D.str))) M else .fail := nrfl rfl
@[simp] theorem f_listN_l {ds} {M : Mem} : f_listN [.d (.lst ds)] M = .ok (.adr M.length) (M ++ [.lst ds]) := nrfl rfl
@[simp] theorem f_listN_t {ds} {M : Mem} : f_listN [.d (.tup ds)] M = .ok (.adr M.length) (M ++ [.lst ds]) := nrfl rfl
def lenA (o : Option MO) (M : Mem) : Res VD := match o with
  | some (.lst ds) => .ok (.d (.int ds.length)) M
  | _ => .fail
@[simp] theorem f_len_a {j : Nat} {M : Mem} : f_len [.adr j] M = lenA (M[j]?) M := by
  unfold f_len lenOf seqOf lenA
  dsimp only
  all_goals (
    cases M[j]? with
    | none => rfl
    | some m => cases m <;> rfl)
@[simp] theorem lenA_ok {ds M} : lenA (some (.lst ds)) M = .ok (.d (.int ds.length)) M := nrfl rfl
def tupOK (r : Res VD) : Res VD := r.bind f_tup
@[simp] theorem e_tupO_eq {m ρ M} : e_tupO m ρ M = tupOK (m ρ M) := nrfl rfl
@[simp] theorem tupOK_t {ds M} : tupOK (.ok (.d (.tup ds)) M) = .ok (.d (.tup ds)) M := nrfl rfl
@[simp] theorem tupOK_l {ds M} : tupOK (.ok (.d (.lst ds)) M) = .ok (.d (.tup ds)) M := nrfl rfl
def par3K (i j l : Nat) (r : Res (List VD)) (ρ : Env) : Out := r.out fun vs M1 => match vs with
  | [a, b, c] => .nx (((ρ.set i (some a)).set j (some b)).set l (some c)) M1
  | _ => .fail
@[simp] theorem s_par3_eq {i j l ms ρ M} : s_par3 i j l ms ρ M = par3K i j l (ms ρ M) ρ := nrfl rfl
@[simp] theorem par3K_ok {i j l a b c M} {ρ : Env} : par3K i j l (.ok [a, b, c] M) ρ = .nx (((ρ.set i (some a)).set j (some b)).set l (some c)) M := nrfl rfl
@[simp] theorem e_peek_eq {m ρ M} : e_peek m ρ M = peekK (m (nowE M ρ) []) M := nrfl rfl
@[simp] theorem peekK_bl {b M' M} : peekK (.ok (.d (.bl b)) M') M = .ok (.d (.bl b)) M := nrfl rfl
@[simp] theorem nowE_nil {M} : nowE M [] = [] := nrfl rfl
@[simp] theorem nowE_none {M} {ρ : Env} : nowE M (none :: ρ) = none :: nowE M ρ := nrfl rfl
@[simp] theorem nowE_d {M x} {ρ : Env} : nowE M (some (.d x) :: ρ) = some (.d x) :: nowE M ρ := nrfl rfl
def nowM (M : Mem) (o : Option MO) : Option VD := match o with
  | some (.lst ds) => some (.d (.lst ds))
  | some (.lsv vs) => match nowL M vs with
    | some xs => some (.d (.lst xs))
    | none => none
  | _ => none
@[simp] theorem nowE_adr {M : Mem} {j : Nat} {ρ : Env} : nowE M (some (.adr j) :: ρ) = nowM M (M[j]?) :: nowE M ρ := by
  unfold nowE nowM nowV
  simp
  cases M[j]? with
  | none => rfl
  | some m =>
    cases m with
    | lsv vs =>
      dsimp only
      cases nowL M vs <;> rfl
    | dck _ => rfl
    | dcp _ => rfl
    | dead => rfl
    | lst _ => rfl
    | ins _ _ => rfl
@[simp] theorem nowM_lst {M ds} : nowM M (some (.lst ds)) = some (.d (.lst ds)) := nrfl rfl
@[simp] theorem nowM_dead {M} : nowM M (some .dead) = none := nrfl rfl
@[simp] theorem nowL_nil {M} : nowL M [] = some [] := nrfl rfl
def lstVK (r : Res (List VD)) : Res VD := r.bind fun vs M1 => if vs.length ≤ lim then .ok (.adr M1.length) (M1 ++ [.lsv vs]) else .fail
@[simp] theorem e_lstV_eq {ms ρ M} : e_lstV ms ρ M = lstVK (ms ρ M) := nrfl rfl
@[simp] theorem lstVK_ok {vs} {M : Mem} : lstVK (.ok vs M) = if vs.length ≤ lim then .ok (.adr M.length) (M ++ [.lsv vs]) else .fail := nrfl rfl
def frzM (o : Option MO) (i j : Nat) (ρ : Env) (M : Mem) : Option (Env × Mem) := match o with
  | some (.lst ds) => some (ρ.set i (some (.d (.lst ds))), M.set j .dead)
  | _ => none
def frzE (o : Option (Option VD)) (i : Nat) (ρ : Env) (M : Mem) : Option (Env × Mem) := match o with
  | some (some (.adr j)) => match M[j]? with
    | some (.lst ds) => some (ρ.set i (some (.d (.lst ds))), M.set j .dead)
    | _ => none
  | some (some (.d (.lst ds))) => some (ρ, M)
  | _ => none
@[simp] theorem frz1_eq {i} {ρ : Env} {M} : frz1 i ρ M = frzE (ρ[i]?) i ρ M := nrfl rfl
@[simp] theorem frzE_a {i j : Nat} {ρ : Env} {M : Mem} : frzE (some (some (.adr j))) i ρ M = frzM (M[j]?) i j ρ M := nrfl rfl
@[simp] theorem frzE_l {i : Nat} {ds} {ρ : Env} {M : Mem} : frzE (some (some (.d (.lst ds)))) i ρ M = some (ρ, M) := nrfl rfl
@[simp] theorem frzM_ok {ds} {i j : Nat} {ρ : Env} {M : Mem} : frzM (some (.lst ds)) i j ρ M = some (ρ.set i (some (.d (.lst ds))), M.set j .dead) := nrfl rfl
/-- the cells behind a def's own are dropped -/
theorem trim_app {x : D} {M l : Mem} (h : M.all (moLt M.length) = true) : trim M.length (.ok (.d x) (M ++ l)) = .ok (.d x) M := by
  unfold trim
  dsimp only
  rw [List.take_left, h]
  rfl
end G
namespace G
open PySem PySem.Spec PyProof.Rows L2 TL
theorem pre1 {c x : Nat} {r : List Nat} : pre [c] (x :: r) = (x == c) := by
  unfold pre
  simp
theorem spl_free {c : Nat} : ∀ {p acc : List Nat}, c ∉ p → spl [c] 0 acc p = [acc ++ p]
  | [], acc, _ => by simp [spl]
  | x :: p, acc, h => by
    simp at h
    unfold spl
    rw [pre1, if_neg (by simpa using fun e => h.1 e.symm), spl_free h.2]
    simp
theorem spl_next {c : Nat} : ∀ {p acc r : List Nat}, c ∉ p → spl [c] 0 acc (p ++ c :: r) = (acc ++ p) :: spl [c] 0 [] r
  | [], acc, r, _ => by
    rw [List.nil_append]
    rw [spl, pre1, if_pos (by simp)]
    simp
  | x :: p, acc, r, h => by
    simp at h
    rw [List.cons_append, spl, pre1, if_neg (by simpa using fun e => h.1 e.symm), spl_next h.2]
    simp
theorem spl_join {c : Nat} : ∀ {ss : List (List Nat)}, ss ≠ [] → (∀ s ∈ ss, c ∉ s) → spl [c] 0 [] (joinL [c] ss) = ss
  | [], h, _ => absurd rfl h
  | [s], _, h => by
    show spl [c] 0 [] s = [s]
    rw [spl_free (h s (by simp))]
    rfl
  | s :: t :: r, _, h => by
    show spl [c] 0 [] (s ++ ([c] ++ joinL [c] (t :: r))) = _
    rw [show s ++ ([c] ++ joinL [c] (t :: r)) = s ++ c :: joinL [c] (t :: r) from rfl, spl_next (h s (by simp)), spl_join (by simp) (fun s hs => h s (by simp at hs ⊢; exact .inr hs))]
    rfl
theorem tl_enc (s : List Nat) : tl (enc s) = s := rfl
theorem splitS_eq {c : Nat} (hc : c < 256) (s : List Nat) : splitS s [c] = spl [c] 0 [] s := by
  unfold splitS
  rw [split_spl (enc s) (enc [c]) (by rw [tl_enc]; simp) (kind_ok (by
    show (enc [c]).cps.all (· < 256) = true
    rw [← Array.all_toList]
    simpa [enc] using hc))]
  rfl
theorem splitS_join {c : Nat} (hc : c < 256) {ss : List (List Nat)} (h0 : ss ≠ []) (h : ∀ s ∈ ss, c ∉ s) : splitS (joinL [c] ss) [c] = ss := by
  rw [splitS_eq hc, spl_join h0 h]
theorem joinL_len {c : Nat} : ∀ ss : List (List Nat), (joinL [c] ss).length ≤ szs ss + ss.length
  | [] => by simp [joinL]
  | [s] => by
    show s.length ≤ _
    simp [szs]
  | s :: t :: r => by
    have := joinL_len (c := c) (t :: r)
    show (s ++ ([c] ++ joinL [c] (t :: r))).length ≤ _
    simp [szs] at this ⊢
    omega
theorem vLt_mono {n k : Nat} (h : n ≤ k) {v : VD} (q : vLt n v = true) : vLt k v = true := by
  cases v with
  | d _ => rfl
  | adr i =>
    have : i < n := of_decide_eq_true q
    exact decide_eq_true (by omega)
theorem moLt_mono {n k : Nat} (h : n ≤ k) {m : MO} (q : moLt n m = true) : moLt k m = true := by
  cases m with
  | dead => rfl
  | lst _ => rfl
  | ins c fs => exact List.all_eq_true.mpr fun v hv => vLt_mono h (List.all_eq_true.mp q v hv)
  | lsv fs => exact List.all_eq_true.mpr fun v hv => vLt_mono h (List.all_eq_true.mp q v hv)
  | dck fs => exact List.all_eq_true.mpr fun v hv => vLt_mono h (List.all_eq_true.mp q v hv)
  | dcp fs => exact List.all_eq_true.mpr fun v hv => vLt_mono h (List.all_eq_true.mp q v hv)
def Lst (M : Mem) : Prop := ∀ m ∈ M, moLt M.length m = true
theorem Lst.nil : Lst [] := fun m h => by cases h
theorem Lst.cons {b : Bag} {M : Mem} (h : Lst M) : Lst (mo b :: M) := fun m hm => by
  rcases List.mem_cons.mp hm with rfl | hm
  · rfl
  · exact moLt_mono (by simp) (h m hm)
theorem Lst.snoc' {m : MO} {M : Mem} (h : Lst M) (hm0 : moLt (M.length + 1) m = true) : Lst (M ++ [m]) := fun m' hm => by
  rcases List.mem_append.mp hm with hm | hm
  · exact moLt_mono (by simp) (h m' hm)
  · simp at hm
    subst hm
    simpa using hm0
theorem Lst.snoc {ds : List D} {M : Mem} (h : Lst M) : Lst (M ++ [.lst ds]) := h.snoc' rfl
theorem Lst.all {M : Mem} (h : Lst M) : M.all (moLt M.length) = true := List.all_eq_true.mpr h
theorem trimL {x : D} {M l : Mem} (h : Lst M) : trim M.length (.ok (.d x) (M ++ l)) = .ok (.d x) M := trim_app h.all
theorem trimC {x : D} {b : Bag} {M l : Mem} (h : Lst M) : trim (M.length + 1) (.ok (.d x) (mo b :: (M ++ l))) = .ok (.d x) (mo b :: M) := trimL (M := mo b :: M) (Lst.cons h)
def PartOk (L p : List Nat) : Prop := p = [46] ∨ (p ≠ [] ∧ p.Sublist L)
theorem is_part_ok {L p : List Nat} (h : PartOk L p) (hL : L.Pairwise (· < ·)) (hl : L.length ≤ 30) (M : Mem) : m_is_part [.d (.str p), .d (.str L)] M = .ok (.d (.bl true)) M := by
  have hlim := lim_eq
  unfold m_is_part
  rw [fnM_eq]
  unfold b_is_part
  by_cases e : p = [46]
  · subst e
    simp
  · obtain ⟨h0, h1⟩ := h.resolve_left e
    have hp := h1.length_le
    simp [show (p == [46]) = false by simpa using e, show L.length ≤ lim by omega]
    rw [is_rising_s p L L.length (by omega) M (by omega), rk_iff.mpr ⟨by cases p with | nil => exact absurd rfl h0 | cons a l => simp, hp, fun c hc => h1.subset hc, hL.sublist h1⟩]
    simp
theorem compL_sub {turn : D → Mem → Res (Option D)} (I : Mem → Prop) : ∀ (L : List Nat) (acc : List D) (M : Mem), I M → (∀ c ∈ L, ∀ M, I M → ∃ o M2, turn (.str [c]) M = .ok o M2 ∧ I M2 ∧ (o = none ∨ o = some (.str [c]))) → acc.length + L.length ≤ lim → ∃ (p : List Nat) (M2 : Mem), compL turn (L.map fun c => .str [c]) M acc = .ok (acc ++ p.map fun c => .str [c]) M2 ∧ I M2 ∧ p.Sublist L
  | [], acc, M, h, _, _ => ⟨[], M, by simp, h, List.Sublist.refl _⟩
  | c :: L, acc, M, h, hs, hl => by
    obtain ⟨o, M2, e, h2, ho⟩ := hs c List.mem_cons_self M h
    rw [List.map_cons, compL_cons, e]
    rcases ho with rfl | rfl
    · obtain ⟨p, M3, e3, h3, hp⟩ := compL_sub I L acc M2 h2 (fun z hz => hs z (List.mem_cons_of_mem _ hz)) (by simp at hl ⊢; omega)
      exact ⟨p, M3, by rw [clK_none, e3], h3, hp.cons _⟩
    · obtain ⟨p, M3, e3, h3, hp⟩ := compL_sub I L (acc ++ [.str [c]]) M2 h2 (fun z hz => hs z (List.mem_cons_of_mem _ hz)) (by simp at hl ⊢; omega)
      exact ⟨c :: p, M3, by rw [clK_some, if_pos (by simp at hl; omega), e3]; simp, h3, hp.cons₂ _⟩
theorem part_ok {b : Bag} (hb : BagOk b) {L : List Nat} (hl : L.length ≤ 30) {Mr : Mem} (hM : Lst Mr) : ∃ p b', m__law_part [.adr 0, .d (.str L)] (mo b :: Mr) = .ok (.d (.str p)) (mo b' :: Mr) ∧ BagOk b' ∧ PartOk L p := by
  have hlim := lim_eq
  unfold m__law_part
  rw [fnM_eq]
  unfold b__law_part
  simp
  obtain ⟨p, M2, e, ⟨b2, hb2, rfl⟩, hp⟩ := compL_sub (turn := cTurn [3] (g_name 3) (e_asB (e_op f_eq (e_call 2 m__law_draw (a_cons (e_var 0) (a_cons (e_c (D.int 2)) a_nil))) (e_c (D.int 0)))) (e_var 3) [some (VD.adr 0), some (VD.d (D.str L)), none, none]) (fun M => ∃ b, BagOk b ∧ M = mo b :: Mr) L [] (mo b :: Mr) ⟨b, hb, rfl⟩ (by
    rintro c hc M ⟨b, hb, rfl⟩
    obtain ⟨v, b2, e, hb2, hv, hv2⟩ := draw_ok hb (many := 2) (by omega) (by omega) Mr
    by_cases h0 : v = 0
    · exact ⟨some (.str [c]), mo b2 :: Mr, by simp [e, h0], ⟨b2, hb2, rfl⟩, .inr rfl⟩
    · exact ⟨none, mo b2 :: Mr, by simp [e, show (v == 0) = false by simpa using h0], ⟨b2, hb2, rfl⟩, .inl rfl⟩) (by simp; omega)
  rw [chars, e]
  have hp2 := hp.length_le
  have e3 := stL_chars p
  rw [chars] at e3
  simp [e3, szs_chars, joinL_nil, flat_chars, show p.length ≤ lim by omega]
  by_cases h0 : p = []
  · rw [h0]
    refine ⟨[46], b2, ?_, hb2, .inl rfl⟩
    have := trimC (x := D.str [46]) (b := b2) (l := []) hM
    simpa using this
  · have h0' : p.isEmpty = false := by cases p with | nil => exact absurd rfl h0 | cons a l => rfl
    obtain ⟨v, b3, e3, hb3, hv, hv2⟩ := draw_ok hb2 (many := 3) (by omega) (by omega) Mr
    simp [h0', e3]
    by_cases h1 : 0 < v
    · simp [h1]
      refine ⟨p, b3, ?_, hb3, .inr ⟨h0, hp⟩⟩
      have := trimC (x := D.str p) (b := b3) (l := []) hM
      simpa using this
    · simp [h1]
      refine ⟨[46], b3, ?_, hb3, .inl rfl⟩
      have := trimC (x := D.str [46]) (b := b3) (l := []) hM
      simpa using this
theorem string_ok {b : Bag} (hb : BagOk b) {t : List Nat} (h0 : t ≠ []) (hl : t.length ≤ 30) {most : Nat} (hm : most ≤ 100) {Mr : Mem} (hM : Lst Mr) : ∃ s b', m__law_string [.adr 0, .d (.str t), .d (.int most)] (mo b :: Mr) = .ok (.d (.str s)) (mo b' :: Mr) ∧ BagOk b' ∧ (∀ c ∈ s, c ∈ t) ∧ s.length ≤ most := by
  have hlim := lim_eq
  obtain ⟨v, b1, e1, hb1, hv, hv2⟩ := draw_ok hb (many := most + 1) (by omega) (by omega) Mr
  obtain ⟨n, rfl⟩ := Int.eq_ofNat_of_zero_le hv
  unfold m__law_string
  rw [fnM_eq]
  unfold b__law_string
  simp [e1]
  rw [rngK1_nat (by omega)]
  simp
  obtain ⟨ys, M2, e3, ⟨b3, hb3, rfl⟩, hn3, hy⟩ := compL_inv (turn := cTurn [3] (g_name 3) e_yes (e_call 2 m__law_of (a_cons (e_var 0) (a_cons (e_var 1) a_nil))) [some (VD.adr 0), some (VD.d (D.str t)), some (VD.d (D.int most)), none]) (fun M => ∃ b, BagOk b ∧ M = mo b :: Mr) (fun y => ∃ c ∈ t, y = .str [c]) (range 0 n) [] (mo b1 :: Mr) ⟨b1, hb1, rfl⟩ (fun x hx M ⟨b, hb, e⟩ => by
      subst e
      obtain ⟨c, b', e, hb', hc⟩ := ofs_ok hb h0 (by omega) Mr
      exact ⟨.str [c], mo b' :: Mr, by simp [e], ⟨b', hb', rfl⟩, c, hc, rfl⟩) (by simp [range]; omega)
  obtain ⟨s, rfl, hs⟩ := chars_of hy
  obtain rfl : s.length = n := by simpa [chars, range] using hn3
  rw [e3]
  simp [stL_chars, szs_chars, joinL_nil, flat_chars, show s.length ≤ lim by omega]
  refine ⟨s, b3, ?_, hb3, hs, by omega⟩
  have := trimC (x := D.str s) (b := b3) (l := []) hM
  simpa using this
end G
namespace G
open PySem PySem.Spec PyProof.Rows L2 TL
/-- a line of a book -/
structure Ln where
  a : List Nat
  b : List Nat
  c : List Nat
  w : List Nat
def Ln.d (l : Ln) : D := .tup [.str l.a, .str l.b, .str l.c, .str l.w]
structure LnOk (t u : List Nat) (l : Ln) : Prop where
  a : PartOk (60 :: t) l.a
  b : PartOk u l.b
  c : PartOk (62 :: t) l.c
  w : ∀ x ∈ l.w, x ∈ t
  n : l.w.length ≤ 3
structure BkOk (t u : List Nat) : Prop where
  st : t.Sublist azL
  su : u.Sublist AZL
  t1 : 1 ≤ t.length
  t6 : t.length ≤ 6
  u1 : 1 ≤ u.length
  u4 : u.length ≤ 4
/-- what _law_some_book yields -/
def specD (t u : List Nat) (ls : List Ln) : D := .lst [.str t, .str u, .lst (ls.map Ln.d)]
theorem draw_okL {b : Bag} (hb : BagOk b) {t u : List Nat} (h : BkOk t u) {most : Nat} (hm : most ≤ 3) {Mr : Mem} (hM : Lst Mr) : ∃ l b', m__law_line [.adr 0, .d (.str t), .d (.str u), .d (.int most)] (mo b :: Mr) = .ok (.d (Ln.d l)) (mo b' :: Mr) ∧ BagOk b' ∧ LnOk t u l := by
  have hlim := lim_eq
  have h6 := h.t6
  have h4 := h.u4
  have ht0 : t ≠ [] := fun e => by have := h.t1; rw [e] at this; simp at this
  obtain ⟨p1, b1, e1, hb1, q1⟩ := part_ok hb (L := 60 :: t) (by simp; omega) hM
  obtain ⟨p2, b2, e2, hb2, q2⟩ := part_ok hb1 (L := u) (by omega) hM
  obtain ⟨p3, b3, e3, hb3, q3⟩ := part_ok hb2 (L := 62 :: t) (by simp; omega) hM
  obtain ⟨s, b4, e4, hb4, q4, q5⟩ := string_ok hb3 ht0 (by omega) (most := most) (by omega) hM
  refine ⟨⟨p1, p2, p3, s⟩, b4, ?_, hb4, ⟨q1, q2, q3, q4, by show s.length ≤ 3; omega⟩⟩
  unfold m__law_line
  rw [fnM_eq]
  unfold b__law_line
  simp (disch := first | (simp; done) | omega) [e1, e2, e3, e4, ifl]
  have := trimC (x := Ln.d ⟨p1, p2, p3, s⟩) (b := b4) (l := []) hM
  simpa [Ln.d] using this
theorem compL_lns {turn : D → Mem → Res (Option D)} (I : Mem → Prop) (P : Ln → Prop) (items : List D) (M : Mem) (h : I M) (hs : ∀ x ∈ items, ∀ M, I M → ∃ y M2, turn x M = .ok (some (Ln.d y)) M2 ∧ I M2 ∧ P y) (hl : items.length ≤ lim) : ∃ (ls : List Ln) (M2 : Mem), compL turn items M [] = .ok (ls.map Ln.d) M2 ∧ I M2 ∧ ls.length = items.length ∧ ∀ y ∈ ls, P y := by
  obtain ⟨ys, M2, e, h2, h3, h4⟩ := compL_inv (turn := turn) I (fun d => ∃ l, d = Ln.d l ∧ P l) items [] M h (fun x hx M hM => by
    obtain ⟨y, M2, e, h2, hp⟩ := hs x hx M hM
    exact ⟨_, M2, e, h2, y, rfl, hp⟩) (by simpa using hl)
  have : ∃ ls : List Ln, ys = ls.map Ln.d ∧ ∀ y ∈ ls, P y := by
    clear e h3
    induction ys with
    | nil => exact ⟨[], rfl, by simp⟩
    | cons y ys ih =>
      obtain ⟨l, rfl, hp⟩ := h4 y (by simp)
      obtain ⟨ls, rfl, hq⟩ := ih fun z hz => h4 z (by simp [hz])
      exact ⟨l :: ls, rfl, by simpa using ⟨hp, hq⟩⟩
  obtain ⟨ls, rfl, hp⟩ := this
  exact ⟨ls, M2, by simpa using e, h2, by simpa using h3, hp⟩
theorem some_book_ok {b : Bag} (hb : BagOk b) {s0 s1 s2 s3 : Nat} (h0 : 1 ≤ s0 ∧ s0 ≤ 6) (h1 : 1 ≤ s1 ∧ s1 ≤ 4) (h2 : s2 ≤ 8) (h3 : s3 ≤ 3) {Mr : Mem} (hM : Lst Mr) : ∃ t u ls b', m__law_some_book [.adr 0, .d (.lst [.int s0, .int s1, .int s2, .int s3])] (mo b :: Mr) = .ok (.d (specD t u ls)) (mo b' :: Mr) ∧ BagOk b' ∧ BkOk t u ∧ ls.length ≤ s2 ∧ (∀ l ∈ ls, LnOk t u l) ∧ t.length ≤ s0 ∧ u.length ≤ s1 := by
  have hlim := lim_eq
  obtain ⟨t, b1, e1, hb1, k1, k2, k3⟩ := some_kinds_ok hb (most := s0) (by omega) (by omega) Mr
  obtain ⟨u, b2, e2, hb2, k4, k5, k6⟩ := some_comers_ok hb1 (most := s1) (by omega) (by omega) Mr
  have hk : BkOk t u := ⟨k1, k4, k2, by omega, k5, by omega⟩
  obtain ⟨v, b3, e3, hb3, hv, hv2⟩ := draw_ok hb2 (many := s2 + 1) (by omega) (by omega) Mr
  obtain ⟨n, rfl⟩ := Int.eq_ofNat_of_zero_le hv
  unfold m__law_some_book
  rw [fnM_eq]
  unfold b__law_some_book
  simp (disch := first | (simp; done) | omega) [e1, e2, e3, ifl]
  obtain ⟨ls, M2, e4, ⟨b4, hb4, rfl⟩, hn, hls⟩ := compL_lns (turn := cTurn [5] (g_name 5) e_yes (e_call 4 m__law_line (a_cons (e_var 0) (a_cons (e_var 3) (a_cons (e_var 4) (a_cons (e_op f_ix (e_var 1) (e_c (D.int 3))) a_nil))))) [some (VD.adr 0), some (VD.d (D.lst [D.int s0, D.int s1, D.int s2, D.int s3])), none, some (VD.d (D.str t)), some (VD.d (D.str u)), none]) (fun M => ∃ b, BagOk b ∧ M = mo b :: Mr) (LnOk t u) (range 0 n) (mo b3 :: Mr) ⟨b3, hb3, rfl⟩ (fun x hx M ⟨b, hb, e⟩ => by
    subst e
    obtain ⟨l, b', e, hb', hl⟩ := draw_okL hb hk h3 hM
    exact ⟨l, mo b' :: Mr, by simp [e], ⟨b', hb', rfl⟩, hl⟩) (by simp [range]; omega)
  rw [e4]
  have hn : ls.length = n := by simpa [range] using hn
  obtain ⟨v, b5, e5, hb5, hv, hv2⟩ := draw_ok hb4 (many := 3) (by omega) (by omega) (Mr ++ [.lst (ls.map Ln.d)])
  simp [e5]
  have fin : ∀ (ls : List Ln) (b : Bag), trim (Mr.length + 1) (.ok (.d (specD t u ls)) (mo b :: (Mr ++ [.dead]))) = .ok (.d (specD t u ls)) (mo b :: Mr) := fun ls b => trimC hM
  by_cases c : 0 < v ∧ (ls.length : Int) < s2
  · obtain ⟨c', b6, e6, hb6, hc⟩ := ofs_ok hb5 (s := t) (fun e => by rw [e] at k2; simp at k2) (by omega) (Mr ++ [.lst (ls.map Ln.d)])
    refine ⟨t, u, ls ++ [⟨[46], [46], [46], [c']⟩], b6, ?_, hb6, hk, by simp; omega, ?_, by omega, by omega⟩
    · simp [c.1, c.2, e6]
      simp (disch := first | (simp; done) | omega) [ifl, ifL]
      have := fin (ls ++ [⟨[46], [46], [46], [c']⟩]) b6
      simpa [specD, Ln.d] using this
    · intro l hl
      rcases List.mem_append.mp hl with hl | hl
      · exact hls l hl
      · simp at hl
        subst hl
        exact ⟨.inl rfl, .inl rfl, .inl rfl, fun x hx => by simp at hx; subst hx; exact hc, by simp⟩
  · refine ⟨t, u, ls, b5, ?_, hb5, hk, by omega, hls, by omega, by omega⟩
    have e7 : (decide (0 < v) && decide ((ls.length : Int) < s2)) = false := by
      rw [Bool.and_eq_false_iff]
      by_cases c1 : 0 < v
      · exact .inr (by simpa using fun h => c ⟨c1, h⟩)
      · exact .inl (by simpa using c1)
    by_cases c1 : 0 < v
    · have c2 : ¬ (ls.length : Int) < s2 := fun h => c ⟨c1, h⟩
      simp [c1, c2]
      simp (disch := first | (simp; done) | omega) [ifl, ifL]
      exact fin ls b5
    · simp [c1]
      simp (disch := first | (simp; done) | omega) [ifl, ifL]
      exact fin ls b5
end G
namespace G
open PySem PySem.Spec PyProof.Rows L2 TL
def lnT (l : Ln) : List Nat := joinL [32] [l.a, l.b, l.c, if l.w = [] then [45] else l.w]
def bookT (t u : List Nat) (ls : List Ln) : List Nat := joinL [10] ((t ++ 32 :: u) :: ls.map lnT)
def bookD (t u : List Nat) (ls : List Ln) : D := .obj 0 [.str t, .str u, .lst (ls.map Ln.d)]
theorem PartOk.ne {L p : List Nat} (h : PartOk L p) : p ≠ [] := by
  rcases h with rfl | h
  · simp
  · exact h.1
theorem PartOk.len {L p : List Nat} (h : PartOk L p) : p.length ≤ L.length + 1 := by
  rcases h with rfl | h
  · simp
  · have := h.2.length_le
    omega
theorem PartOk.ge {L p : List Nat} (h : PartOk L p) (hL : ∀ x ∈ L, 46 ≤ x) : ∀ x ∈ p, 46 ≤ x := by
  rcases h with rfl | h
  · simp
  · exact fun x hx => hL x (h.2.subset hx)
theorem BkOk.tge {t u : List Nat} (h : BkOk t u) : ∀ x ∈ t, 97 ≤ x := fun x hx => by
  have := h.st.subset hx
  simp [azL] at this
  omega
theorem BkOk.uge {t u : List Nat} (h : BkOk t u) : ∀ x ∈ u, 65 ≤ x := fun x hx => by
  have := h.su.subset hx
  simp [AZL] at this
  omega
/-- lengths and signs of a line's parts -/
structure LnS (l : Ln) : Prop where
  a1 : l.a.length ≤ 8
  b1 : l.b.length ≤ 8
  c1 : l.c.length ≤ 8
  w1 : l.w.length ≤ 3
  a2 : l.a ≠ []
  b2 : l.b ≠ []
  c2 : l.c ≠ []
  a3 : ∀ x ∈ l.a, 46 ≤ x
  b3 : ∀ x ∈ l.b, 46 ≤ x
  c3 : ∀ x ∈ l.c, 46 ≤ x
  w3 : ∀ x ∈ l.w, 46 ≤ x
theorem LnOk.s {t u : List Nat} {l : Ln} (h : LnOk t u l) (k : BkOk t u) : LnS l := by
  have h6 := k.t6
  have h4 := k.u4
  have ht := k.tge
  have hu := k.uge
  refine ⟨?_, ?_, ?_, h.n, h.a.ne, h.b.ne, h.c.ne, h.a.ge ?_, h.b.ge ?_, h.c.ge ?_, fun x hx => ?_⟩
  · have := h.a.len
    simp at this
    omega
  · have := h.b.len
    omega
  · have := h.c.len
    simp at this
    omega
  · intro x hx
    rcases List.mem_cons.mp hx with rfl | hx
    · omega
    · have := ht x hx
      omega
  · intro x hx
    have := hu x hx
    omega
  · intro x hx
    rcases List.mem_cons.mp hx with rfl | hx
    · omega
    · have := ht x hx
      omega
  · have := ht x (h.w x hx)
    omega
theorem lnT_len {l : Ln} (h : LnS l) : (lnT l).length ≤ 40 := by
  have := joinL_len (c := 32) [l.a, l.b, l.c, if l.w = [] then [45] else l.w]
  obtain ⟨a1, b1, c1, w1, -, -, -, -, -, -, -⟩ := id h
  unfold lnT
  by_cases e : l.w = []
  · simp [e, szs] at this ⊢
    omega
  · simp [e, szs] at this ⊢
    omega
theorem lnT_ge {l : Ln} (h : LnS l) : ∀ x ∈ lnT l, x ≠ 10 := by
  have ⟨_, _, _, _, _, _, _, a3, b3, c3, w3⟩ := h
  intro x hx
  unfold lnT at hx
  by_cases e : l.w = []
  · simp [e, joinL] at hx
    rcases hx with hx | hx | hx | hx | hx | hx | hx
    · have := a3 x hx; omega
    · omega
    · have := b3 x hx; omega
    · omega
    · have := c3 x hx; omega
    · omega
    · omega
  · simp [e, joinL] at hx
    rcases hx with hx | hx | hx | hx | hx | hx | hx
    · have := a3 x hx; omega
    · omega
    · have := b3 x hx; omega
    · omega
    · have := c3 x hx; omega
    · omega
    · have := w3 x hx; omega
theorem line_text_ok {l : Ln} (h : LnS l) (M : Mem) : m__law_line_text [.d (Ln.d l)] M = .ok (.d (.str (lnT l))) M := by
  have hlim := lim_eq
  obtain ⟨a1, b1, c1, w1, -, -, -, -, -, -, -⟩ := id h
  unfold m__law_line_text
  rw [fnM_eq]
  unfold b__law_line_text lnT
  by_cases e : l.w = []
  · simp (disch := first | (simp; done) | omega) [Ln.d, e, ifl, szs]
  · simp (disch := first | (simp; done) | omega) [Ln.d, e, ifl, szs, show l.w.isEmpty = false by cases q : l.w with | nil => exact absurd q e | cons a l => rfl]
theorem szs_le {k : Nat} : ∀ {ss : List (List Nat)}, (∀ s ∈ ss, s.length ≤ k) → szs ss ≤ k * ss.length
  | [], _ => by simp [szs]
  | s :: r, h => by
    have h1 := h s (by simp)
    have h2 := szs_le (ss := r) fun x hx => h x (by simp [hx])
    simp [szs, Nat.mul_add]
    omega
theorem book_text_ok {t u : List Nat} {ls : List Ln} (k : BkOk t u) (h : ∀ l ∈ ls, LnS l) (hn : ls.length ≤ 8) (M : Mem) : m__law_book_text [.d (specD t u ls)] M = .ok (.d (.str (bookT t u ls))) M := by
  have hlim := lim_eq
  have h6 := k.t6
  have h4 := k.u4
  have hs : szs (ls.map lnT) ≤ 40 * ls.length := by
    have := szs_le (k := 40) (ss := ls.map lnT) (fun s hs => by
      obtain ⟨l, hl, rfl⟩ := List.mem_map.mp hs
      exact lnT_len (h l hl))
    simpa using this
  unfold m__law_book_text
  rw [fnM_eq]
  unfold b__law_book_text bookT
  simp (disch := first | (simp; done) | omega) [specD, ifl]
  rw [compL_mapA Ln.d (fun l => D.str (lnT l)) ls [] (fun l hl => by simp [line_text_ok (h l hl)]) (by simp; omega)]
  simp (disch := first | (simp; done) | omega) [ifl, szs]
theorem cut3 {α : Type} {a b c : α} {r : List α} : cut (a :: b :: c :: r) none (some 3) = [a, b, c] := by
  have := cut_take (xs := a :: b :: c :: r) (n := 3) (by simp)
  exact this
theorem splitLn {l : Ln} (h : LnS l) : splitS (lnT l) [32] = [l.a, l.b, l.c, if l.w = [] then [45] else l.w] := by
  obtain ⟨-, -, -, -, -, -, -, a3, b3, c3, w3⟩ := id h
  unfold lnT
  refine splitS_join (by decide) (by simp) fun s hs hx => ?_
  simp at hs
  rcases hs with rfl | rfl | rfl | rfl
  · have := a3 _ hx; omega
  · have := b3 _ hx; omega
  · have := c3 _ hx; omega
  · split at hx
    · simp at hx
    · have := w3 _ hx; omega
theorem line_of_ok {l : Ln} (h : LnS l) (M : Mem) : m_line_of [.d (.str (lnT l))] M = .ok (.d (Ln.d l)) M := by
  have hlim := lim_eq
  have hl := lnT_len h
  have hsp := splitLn h
  obtain ⟨a1, b1, c1, w1, a2, b2, c2, a3, b3, c3, w3⟩ := id h
  unfold m_line_of
  rw [fnM_eq]
  unfold b_line_of
  have na : l.a.isEmpty = false := by simpa using a2
  have nb : l.b.isEmpty = false := by simpa using b2
  have nc : l.c.isEmpty = false := by simpa using c2
  by_cases e : l.w = []
  · rw [if_pos e] at hsp
    simp (disch := first | (simp; done) | omega) [hsp, ifl, show (lnT l).length + 2 ≤ lim by omega, na, nb, nc, cut3, Ln.d, e]
  · rw [if_neg e] at hsp
    have nw : (l.w == [45]) = false := by
      rw [beq_eq_false_iff_ne]
      intro q
      have := w3 45 (by rw [q]; simp)
      omega
    simp (disch := first | (simp; done) | omega) [hsp, ifl, show (lnT l).length + 2 ≤ lim by omega, na, nb, nc, show l.w.isEmpty = false by simpa using e, cut3, Ln.d, e, nw]
theorem BkOk.rt {t u : List Nat} (h : BkOk t u) : rk azL 6 t = true := rk_iff.mpr ⟨h.t1, h.t6, fun c hc => h.st.subset hc, az_lt.sublist h.st⟩
theorem BkOk.ru {t u : List Nat} (h : BkOk t u) : rk AZL 4 u = true := rk_iff.mpr ⟨h.u1, h.u4, fun c hc => h.su.subset hc, AZ_lt.sublist h.su⟩
theorem is_line_ok {t u : List Nat} {l : Ln} (k : BkOk t u) (h : LnOk t u l) (M : Mem) : m_is_line [.d (Ln.d l), .d (.str t), .d (.str u)] M = .ok (.d (.bl true)) M := by
  have hlim := lim_eq
  have h6 := k.t6
  have h4 := k.u4
  have ht := k.tge
  have tl := az_lt.sublist k.st
  have hs := h.s k
  obtain ⟨a1, b1, c1, w1, a2, b2, c2, a3, b3, c3, w3⟩ := id hs
  have pa := is_part_ok h.a (List.pairwise_cons.mpr ⟨fun x hx => by have := ht x hx; omega, tl⟩) (by simp; omega) M
  have pb := is_part_ok h.b (AZ_lt.sublist k.su) (by omega) M
  have pc := is_part_ok h.c (List.pairwise_cons.mpr ⟨fun x hx => by have := ht x hx; omega, tl⟩) (by simp; omega) M
  have pw := is_word_s l.w t M (by omega)
  have aw : (l.w.all fun c => decide (c ∈ t)) = true := by simpa using h.w
  rw [aw] at pw
  unfold m_is_line
  rw [fnM_eq]
  unfold b_is_line
  simp (disch := first | (simp; done) | omega) [Ln.d, ifl, pa, pb, pc, pw]
  omega
theorem enumL_mem : ∀ {ds : List D} {k : Nat} {x : D}, x ∈ enumL ds k → ∃ i d, x = .tup [.int (i : Nat), d] ∧ k ≤ i ∧ i < k + ds.length ∧ d ∈ ds
  | [], _, _, h => by simp [enumL] at h
  | d :: r, k, x, h => by
    rw [enumL] at h
    rcases List.mem_cons.mp h with rfl | h
    · exact ⟨k, d, rfl, Nat.le_refl _, by simp, by simp⟩
    · obtain ⟨i, d', rfl, h1, h2, h3⟩ := enumL_mem h
      exact ⟨i, d', rfl, by omega, by simp; omega, by simp [h3]⟩
theorem init_ok {t u : List Nat} {ls : List Ln} (k : BkOk t u) (h : ∀ l ∈ ls, LnOk t u l) (hn : ls.length ≤ 8) (M : Mem) : p_Book___init__ (.adr M.length :: .d (.str t) :: .d (.str u) :: (ls.map Ln.d).map .d) (M ++ [.ins 0 []]) = .ok (.d .non) (M ++ [.ins 0 ([.str t, .str u, .lst (ls.map Ln.d)].map .d)]) := by
  have hlim := lim_eq
  have h6 := k.t6
  have h4 := k.u4
  unfold p_Book___init__ arS
  rw [if_pos (by simp)]
  show (match dats ((ls.map Ln.d).map VD.d) with | some rest => _ | none => _) = _
  rw [dats_map]
  dsimp only
  rw [if_pos (by simp; omega)]
  unfold m_Book___init__
  rw [fnM_eq]
  unfold b_Book___init__
  simp (disch := first | (simp; done) | omega) [is_kinds_s, is_comers_s, k.rt, k.ru]
  obtain ⟨ρ2, M2, e, x4, x5, rfl, rfl⟩ := forL_inv (mg := g_tup 2 (g_cons (g_name 4) (g_cons (g_name 5) g_nil))) (body := s_if (e_orT (e_asB (e_op f_ge (e_var 4) (e_c (.int 8)))) (e_notT (e_truth (e_call 3 m_is_line (a_cons (e_var 5) (a_cons (e_var 1) (a_cons (e_var 2) a_nil))))))) s_fail s_skip) (fun ρ M' => ∃ x4 x5, ρ = [some (.adr M.length), some (.d (.str t)), some (.d (.str u)), some (.d (.tup (ls.map Ln.d))), x4, x5] ∧ M' = M ++ [.ins 0 []]) (enumL (ls.map Ln.d) 0) (by
    rintro x hx ρ M' ⟨x4, x5, rfl, rfl⟩
    obtain ⟨i, d, rfl, h1, h2, h3⟩ := enumL_mem hx
    obtain ⟨l, hl, rfl⟩ := List.mem_map.mp h3
    simp at h2
    refine ⟨_, _, _, rfl, ?_, some (.d (.int i)), some (.d (Ln.d l)), rfl, rfl⟩
    simp (disch := first | (simp; done) | omega) [is_line_ok k (h l hl), show decide ((8 : Int) ≤ i) = false by simp; omega]) [some (.adr M.length), some (.d (.str t)), some (.d (.str u)), some (.d (.tup (ls.map Ln.d))), none, none] (M ++ [.ins 0 []]) ⟨none, none, rfl, rfl⟩
  rw [e]
  simp
  exact trim_same (by simp)
end G
namespace G
open PySem PySem.Spec PyProof.Rows L2 TL
@[simp] theorem dats_mapc {α : Type} {g : α → D} {xs : List α} : dats (xs.map (VD.d ∘ g)) = some (xs.map g) := by
  have := dats_map (ds := xs.map g)
  simpa using this
theorem make_ok {t u : List Nat} {ls : List Ln} (k : BkOk t u) (h : ∀ l ∈ ls, LnOk t u l) (hn : ls.length ≤ 8) (M : Mem) : makeV 0 3 p_Book___init__ (.d (.str t) :: .d (.str u) :: (ls.map Ln.d).map .d) M = .ok (.d (bookD t u ls)) (M ++ [.dead]) :=
  makeV_ok (ds := [.str t, .str u, .lst (ls.map Ln.d)]) (init_ok k h hn M) rfl
theorem header_len {t u : List Nat} (k : BkOk t u) : (t ++ 32 :: u).length ≤ 11 := by
  have h6 := k.t6
  have h4 := k.u4
  simp
  omega
theorem header_split {t u : List Nat} (k : BkOk t u) : splitS (t ++ 32 :: u) [32] = [t, u] := by
  have e := splitS_join (c := 32) (by decide) (ss := [t, u]) (by simp) (fun s hs hx => by
    simp at hs
    rcases hs with rfl | rfl
    · have := k.tge _ hx; omega
    · have := k.uge _ hx; omega)
  exact e
theorem bookT_split {t u : List Nat} {ls : List Ln} (k : BkOk t u) (h : ∀ l ∈ ls, LnS l) : splitS (bookT t u ls) [10] = (t ++ 32 :: u) :: ls.map lnT := by
  unfold bookT
  refine splitS_join (by decide) (by simp) fun s hs hx => ?_
  rcases List.mem_cons.mp hs with rfl | hs
  · rcases List.mem_append.mp hx with hx | hx
    · have := k.tge _ hx; omega
    · rcases List.mem_cons.mp hx with hx | hx
      · omega
      · have := k.uge _ hx; omega
  · obtain ⟨l, hl, rfl⟩ := List.mem_map.mp hs
    exact lnT_ge (h l hl) 10 hx rfl
theorem bookT_len {t u : List Nat} {ls : List Ln} (k : BkOk t u) (h : ∀ l ∈ ls, LnS l) : (bookT t u ls).length ≤ 12 + 41 * ls.length := by
  have hs : szs (ls.map lnT) ≤ 40 * ls.length := by
    have := szs_le (k := 40) (ss := ls.map lnT) (fun s hs => by
      obtain ⟨l, hl, rfl⟩ := List.mem_map.mp hs
      exact lnT_len (h l hl))
    simpa using this
  have := joinL_len (c := 10) ((t ++ 32 :: u) :: ls.map lnT)
  have := header_len k
  unfold bookT
  rw [szs] at *
  rw [List.length_cons, List.length_map] at *
  omega
noncomputable abbrev readB : Sx := s_if (e_asB (e_op f_gt (e_var 4) (e_c (.int 0)))) (s_seq (s_asg (e_call 1 m_line_of (a_cons (e_var 5) a_nil)) (g_name 6))
    (s_seq (s_if (e_orT (e_asB (e_op f_gt (e_var 4) (e_c (.int 8)))) (e_notT (e_truth (e_call 3 m_is_line (a_cons (e_var 6) (a_cons (e_op f_ix (e_var 2) (e_c (.int 0))) (a_cons (e_op f_ix (e_var 2) (e_c (.int 1))) a_nil))))))) s_fail s_skip)
    (s_expr (e_app (e_var 3) (e_var 6))))) s_skip
theorem read_loop {t u : List Nat} (k : BkOk t u) (x0 x1 : Option VD) (M : Mem) : ∀ (rest dn : List Ln) (x4 x5 x6 : Option VD), (∀ l ∈ rest, LnOk t u l) → dn.length + rest.length ≤ 8 → ∃ y4 y5 y6, forL (g_tup 2 (g_cons (g_name 4) (g_cons (g_name 5) g_nil))) readB (enumL (rest.map fun l => D.str (lnT l)) (dn.length + 1)) [x0, x1, some (.d (.lst [.str t, .str u])), some (.adr M.length), x4, x5, x6] (M ++ [.lst (dn.map Ln.d)]) = .nx [x0, x1, some (.d (.lst [.str t, .str u])), some (.adr M.length), y4, y5, y6] (M ++ [.lst ((dn ++ rest).map Ln.d)])
  | [], dn, x4, x5, x6, _, _ => ⟨x4, x5, x6, by simp [enumL]⟩
  | l :: rest, dn, x4, x5, x6, h, hl => by
    have hlim := lim_eq
    simp at hl
    have hl0 := h l (by simp)
    obtain ⟨y4, y5, y6, e⟩ := read_loop k x0 x1 M rest (dn ++ [l]) (some (.d (.int (dn.length + 1 : Nat)))) (some (.d (.str (lnT l)))) (some (.d (Ln.d l))) (fun z hz => h z (by simp [hz])) (by simp; omega)
    refine ⟨y4, y5, y6, ?_⟩
    rw [List.map_cons, enumL, forL_cons]
    simp at e
    simp (disch := first | (simp; done) | omega) [line_of_ok (hl0.s k), is_line_ok k hl0, show decide ((8 : Int) < dn.length + 1) = false by simp; omega, show decide ((0 : Int) < dn.length + 1) = true by first | (simp; done) | (simp; omega), ifL]
    exact e
theorem read_ok {t u : List Nat} {ls : List Ln} (k : BkOk t u) (h : ∀ l ∈ ls, LnOk t u l) (hn : ls.length ≤ 8) {M : Mem} (hM : Lst M) : m_Book_read [.d (.str (bookT t u ls))] M = .ok (.d (bookD t u ls)) M := by
  have hlim := lim_eq
  have h6 := k.t6
  have h4 := k.u4
  have hs : ∀ l ∈ ls, LnS l := fun l hl => (h l hl).s k
  have hb := bookT_len k hs
  have hh := header_len k
  obtain ⟨y4, y5, y6, e⟩ := read_loop k (some (.d (.str (bookT t u ls)))) (some (.d (.lst (D.str (t ++ 32 :: u) :: ls.map fun l => D.str (lnT l))))) M ls [] (some (.d (.int 0))) (some (.d (.str (t ++ 32 :: u)))) none h (by simpa using hn)
  simp at e
  unfold m_Book_read
  rw [fnM_eq]
  unfold b_Book_read
  simp (disch := first | (simp; done) | omega) [bookT_split k hs, header_split k, show (bookT t u ls).length + 2 ≤ lim by omega, show (t ++ 32 :: u).length + 2 ≤ lim by omega, is_kinds_s, is_comers_s, k.rt, k.ru, enumL, forL_cons, ifl, Function.comp_def]
  rw [e]
  simp
  have hmk := make_ok k h hn (M ++ [.lst (ls.map Ln.d)])
  simp at hmk
  rw [hmk]
  simp
  exact trimL hM
theorem law_book_ok {t u : List Nat} {ls : List Ln} (k : BkOk t u) (h : ∀ l ∈ ls, LnOk t u l) (hn : ls.length ≤ 8) {M : Mem} (hM : Lst M) : m__law_book [.d (specD t u ls)] M = .ok (.d (bookD t u ls)) M := by
  unfold m__law_book
  rw [fnM_eq]
  unfold b__law_book
  simp [book_text_ok k (fun l hl => (h l hl).s k) hn, read_ok k h hn hM]
end G
namespace G
open PySem PySem.Spec PyProof.Rows L2 TL
@[simp] theorem ix_spec0 {t u ls M} : f_ix (.d (specD t u ls)) (.d (.int 0)) M = .ok (.d (.str t)) M := by simp [specD]
@[simp] theorem ix_spec1 {t u ls M} : f_ix (.d (specD t u ls)) (.d (.int 1)) M = .ok (.d (.str u)) M := by simp [specD]
@[simp] theorem ix_spec2 {t u ls M} : f_ix (.d (specD t u ls)) (.d (.int 2)) M = .ok (.d (.lst (ls.map Ln.d))) M := by simp [specD]
@[simp] theorem ix_Ln0 {l M} : f_ix (.d (Ln.d l)) (.d (.int 0)) M = .ok (.d (.str l.a)) M := by simp [Ln.d]
@[simp] theorem ix_Ln1 {l M} : f_ix (.d (Ln.d l)) (.d (.int 1)) M = .ok (.d (.str l.b)) M := by simp [Ln.d]
@[simp] theorem ix_Ln2 {l M} : f_ix (.d (Ln.d l)) (.d (.int 2)) M = .ok (.d (.str l.c)) M := by simp [Ln.d]
@[simp] theorem ix_Ln3 {l M} : f_ix (.d (Ln.d l)) (.d (.int 3)) M = .ok (.d (.str l.w)) M := by simp [Ln.d]
@[simp] theorem fld_book0 {t u ls M} : f_fld (tb 0 0) (.d (bookD t u ls)) M = .ok (.d (.str t)) M := by simp [bookD]
@[simp] theorem fld_book1 {t u ls M} : f_fld (tb 0 1) (.d (bookD t u ls)) M = .ok (.d (.str u)) M := by simp [bookD]
@[simp] theorem fld_book2 {t u ls M} : f_fld (tb 0 2) (.d (bookD t u ls)) M = .ok (.d (.lst (ls.map Ln.d))) M := by simp [bookD]
@[simp] theorem isC_book {t u ls M} : isC 0 M (.d (bookD t u ls)) = true := by simp [bookD]
@[simp] theorem eqTy_book {t u ls M} : eqTy 0 M (.d (bookD t u ls)) = true := by simp [bookD]
end G
namespace G
section
variable {α β : Type} (p : β → α → Bool)
theorem findIdx_find {f : α → Bool} : ∀ (ls : List α), ls.find? f = match ls.findIdx? f with
    | some i => ls[i]?
    | none => none
  | [] => rfl
  | l :: r => by
    cases e : f l with
    | true => simp [List.findIdx?_cons, List.find?_cons, e]
    | false =>
      rw [List.find?_cons, e]
      rw [findIdx_find r]
      simp [List.findIdx?_cons, e]
      cases r.findIdx? f <;> simp
end
end G
namespace G
open PySem PySem.Spec PyProof.Rows L2 TL
def nowO (M : Mem) (o : Option VD) : Option VD := match o with
  | some v => (nowV M v).map .d
  | none => none
@[simp low] theorem nowE_o {M : Mem} {o : Option VD} {ρ : Env} : nowE M (o :: ρ) = nowO M o :: nowE M ρ := nrfl rfl
def comp2K (fin : List D → Mem → Res VD) (r : Res (List D)) (vs vs1 : List Nat) (mg : VD → Env → Option Env) (mt : Mx Bool) (mi1 : Mx (List D)) (mg1 : VD → Env → Option Env) (mt1 : Mx Bool) (me : Mx VD) (ρ : Env) : Res VD := r.bind fun items M1 => (comp2 vs vs1 mg mt mi1 mg1 mt1 me ρ items M1 []).bind fin
def comp2K2 (fin : List D → Mem → Res VD) (r : Res (List D)) : Res VD := r.bind fin
@[simp] theorem e_comp2_eq {fin vs vs1 mi mg mt mi1 mg1 mt1 me ρ M} : e_comp2 fin vs vs1 mi mg mt mi1 mg1 mt1 me ρ M = comp2K fin (mi ρ M) vs vs1 mg mt mi1 mg1 mt1 me ρ := nrfl rfl
@[simp] theorem comp2K_ok {fin items M vs vs1 mg mt mi1 mg1 mt1 me ρ} : comp2K fin (.ok items M) vs vs1 mg mt mi1 mg1 mt1 me ρ = comp2K2 fin (comp2 vs vs1 mg mt mi1 mg1 mt1 me ρ items M []) := nrfl rfl
@[simp] theorem comp2K2_ok {fin ds M} : comp2K2 fin (.ok ds M) = fin ds M := nrfl rfl
@[simp] theorem finD_eq {ds M} : finD ds M = .ok (.d (.lst ds)) M := nrfl rfl
/-- a loop over numbered lines that ends at the first that fits -/
theorem forL_first {mg : VD → Env → Option Env} {body : Sx} {M : Mem} (f : Ln → Bool) (I : Env → Prop) : ∀ (ls : List Ln) (k : Nat) (ρ : Env), I ρ → (∀ l ∈ ls, ∀ (i : Nat) ρ, I ρ → ∃ ρ1, mg (.d (.tup [.int i, Ln.d l])) ρ = some ρ1 ∧ if f l then body ρ1 M = .ret (.d (.int i)) M else ∃ ρ2, body ρ1 M = .nx ρ2 M ∧ I ρ2) →
    match ls.findIdx? f with
    | some j => forL mg body (enumL (ls.map Ln.d) k) ρ M = .ret (.d (.int (k + j : Nat))) M
    | none => ∃ ρ2, forL mg body (enumL (ls.map Ln.d) k) ρ M = .nx ρ2 M ∧ I ρ2
  | [], k, ρ, h, _ => ⟨ρ, rfl, h⟩
  | l :: ls, k, ρ, h, hs => by
    obtain ⟨ρ1, e1, e2⟩ := hs l List.mem_cons_self k ρ h
    have ih := fun ρ2 h2 => forL_first f I ls (k + 1) ρ2 h2 fun z hz => hs z (List.mem_cons_of_mem _ hz)
    rw [List.map_cons, enumL, forL_cons, e1, flK_ok, List.findIdx?_cons]
    cases q : f l with
    | true =>
      rw [q, if_pos rfl] at e2
      rw [if_pos rfl, e2]
      simp
    | false =>
      rw [q, if_neg Bool.false_ne_true] at e2
      obtain ⟨ρ2, e3, h2⟩ := e2
      rw [if_neg Bool.false_ne_true, e3, flK2_nx]
      have := ih ρ2 h2
      cases q2 : ls.findIdx? f with
      | none =>
        rw [q2] at this
        exact this
      | some j =>
        rw [q2] at this
        simp only [Option.map_some]
        rw [this]
        congr 4
        omega
def fit (p : List Nat) (x : Nat) : Bool := p == [46] || decide (x ∈ p)
/-- a question: the gap's letters and the comer -/
structure Qn where
  l : Nat
  r : Nat
  c : Nat
def fitL (q : Qn) (ln : Ln) : Bool := fit ln.a q.l && (fit ln.b q.c && fit ln.c q.r)
def atD : Option Nat → D
  | some i => .int i
  | none => .non
theorem takes_ok {p : List Nat} {x : Nat} {M : Mem} : m_takes [.d (.str p), .d (.str [x])] M = .ok (.d (.bl (fit p x))) M := by
  unfold m_takes
  rw [fnM_eq]
  unfold b_takes fit
  simp
  cases p == [46] <;> simp
theorem fits_ok {p : List Nat} {x : Nat} {M : Mem} : m__law_fits [.d (.str p), .d (.str [x])] M = .ok (.d (.bl (fit p x))) M := by
  unfold m__law_fits
  rw [fnM_eq]
  unfold b__law_fits fit
  simp
  cases p == [46] <;> simp
theorem law_line_at_ok {t u : List Nat} {ls : List Ln} {q : Qn} {M : Mem} : m__law_line_at [.d (specD t u ls), .d (.str [q.l, q.r]), .d (.str [q.c])] M = .ok (.d (atD (ls.findIdx? (fitL q)))) M := by
  have hlim := lim_eq
  unfold m__law_line_at
  rw [fnM_eq]
  unfold b__law_line_at
  simp
  have key := forL_first (mg := g_tup 2 (g_cons (g_name 3) (g_cons (g_name 4) g_nil))) (body := (s_seq (s_asg (e_lst (a_cons (e_call 2 m__law_fits (a_cons (e_op f_ix (e_var 4) (e_c (.int 0))) (a_cons (e_op f_ix (e_var 1) (e_c (.int 0))) a_nil))) (a_cons (e_call 2 m__law_fits (a_cons (e_op f_ix (e_var 4) (e_c (.int 1))) (a_cons (e_var 2) a_nil))) (a_cons (e_call 2 m__law_fits (a_cons (e_op f_ix (e_var 4) (e_c (.int 2))) (a_cons (e_op f_ix (e_var 1) (e_c (.int 1))) a_nil))) a_nil)))) (g_name 5))
    (s_if (e_truth (e_bi (f_bls fun bs => bs.all id) (a_cons (e_var 5) a_nil))) (s_ret (e_var 3)) s_skip))) (M := M) (fitL q) (fun ρ => ∃ x3 x4 x5, ρ = [some (.d (specD t u ls)), some (.d (.str [q.l, q.r])), some (.d (.str [q.c])), x3, x4, x5]) ls 0 [some (.d (specD t u ls)), some (.d (.str [q.l, q.r])), some (.d (.str [q.c])), none, none, none] ⟨none, none, none, rfl⟩ (by
    rintro l hl i ρ ⟨x3, x4, x5, rfl⟩
    refine ⟨_, rfl, ?_⟩
    have q2 : 2 ≤ lim := by omega
    have q3 : 3 ≤ lim := by omega
    simp [fits_ok, q2, q3]
    cases e : fitL q l with
    | true =>
      unfold fitL at e
      simp at e
      simp [e]
    | false =>
      have e' : (fit l.a q.l && (fit l.b q.c && fit l.c q.r)) = false := e
      simp [e'])
  cases e : ls.findIdx? (fitL q) with
  | some j =>
    rw [e] at key
    simp at key
    rw [key]
    simp [atD]
  | none =>
    rw [e] at key
    obtain ⟨ρ2, e2, _⟩ := key
    rw [e2]
    simp [atD]
end G
namespace G
open PySem PySem.Spec PyProof.Rows L2 TL
theorem is_one_c {c : Nat} {u : List Nat} {M : Mem} : m_is_one [.d (.str [c]), .d (.str u)] M = .ok (.d (.bl (decide (c ∈ u)))) M := by
  have hlim := lim_eq
  have q1 : 1 ≤ lim := by omega
  unfold m_is_one
  rw [fnM_eq]
  unfold b_is_one
  simp [q1]
/-- a question that the book has -/
structure QnOk (t u : List Nat) (q : Qn) : Prop where
  l : q.l ∈ 60 :: t
  r : q.r ∈ t ++ [62]
  c : q.c ∈ u
theorem line_at_ok {t u : List Nat} {ls : List Ln} {q : Qn} (k : BkOk t u) (hq : QnOk t u q) {M : Mem} : m_Book_line_at [.d (bookD t u ls), .d (.str [q.l, q.r]), .d (.str [q.c])] M = .ok (.d (atD (ls.findIdx? (fitL q)))) M := by
  have hlim := lim_eq
  have h6 := k.t6
  have g2 := is_gap_2 q.l q.r t M (by omega)
  rw [show decide (q.l ∈ 60 :: t) = true by simpa using hq.l, show decide (q.r ∈ t ++ [62]) = true by simpa using hq.r] at g2
  have g1 := is_one_c (c := q.c) (u := u) (M := M)
  rw [show decide (q.c ∈ u) = true by simpa using hq.c] at g1
  have q2 : 2 ≤ lim := by omega
  unfold m_Book_line_at
  rw [fnM_eq]
  unfold b_Book_line_at
  simp [g1, g2]
  have key := forL_first (mg := g_tup 2 (g_cons (g_name 3) (g_cons (g_name 4) g_nil))) (body := (s_if (e_andT (e_truth (e_call 2 m_takes (a_cons (e_op f_ix (e_var 4) (e_c (.int 0))) (a_cons (e_op f_ix (e_var 1) (e_c (.int 0))) a_nil)))) (e_andT (e_truth (e_call 2 m_takes (a_cons (e_op f_ix (e_var 4) (e_c (.int 1))) (a_cons (e_var 2) a_nil)))) (e_truth (e_call 2 m_takes (a_cons (e_op f_ix (e_var 4) (e_c (.int 2))) (a_cons (e_op f_ix (e_var 1) (e_c (.int 1))) a_nil)))))) (s_ret (e_var 3)) s_skip)) (M := M) (fitL q) (fun ρ => ∃ x3 x4, ρ = [some (.d (bookD t u ls)), some (.d (.str [q.l, q.r])), some (.d (.str [q.c])), x3, x4]) ls 0 [some (.d (bookD t u ls)), some (.d (.str [q.l, q.r])), some (.d (.str [q.c])), none, none] ⟨none, none, rfl⟩ (by
    rintro l hl i ρ ⟨x3, x4, rfl⟩
    refine ⟨_, rfl, ?_⟩
    unfold fitL
    cases e1 : fit l.a q.l with
    | false => simp [takes_ok, q2, e1]
    | true =>
      cases e2 : fit l.b q.c with
      | false => simp [takes_ok, q2, e1, e2]
      | true =>
        cases e3 : fit l.c q.r with
        | false => simp [takes_ok, q2, e1, e2, e3]
        | true => simp [takes_ok, q2, e1, e2, e3])
  cases e : ls.findIdx? (fitL q) with
  | some j =>
    rw [e] at key
    simp at key
    rw [key]
    simp [atD]
  | none =>
    rw [e] at key
    obtain ⟨ρ2, e2, _⟩ := key
    rw [e2]
    simp [atD]
/-- the word of the first line that takes -/
def wordQ (ls : List Ln) (q : Qn) : List Nat := match ls.find? (fitL q) with
  | some l => l.w
  | none => []
theorem word_ok {t u : List Nat} {ls : List Ln} {q : Qn} (k : BkOk t u) (hq : QnOk t u q) {M : Mem} : m_Book_word [.d (bookD t u ls), .d (.str [q.l, q.r]), .d (.str [q.c])] M = .ok (.d (.str (wordQ ls q))) M := by
  unfold m_Book_word
  rw [fnM_eq]
  unfold b_Book_word
  simp [line_at_ok k hq]
  unfold wordQ
  rw [findIdx_find]
  cases e : ls.findIdx? (fitL q) with
  | none => simp [atD]
  | some j =>
    have hj : j < ls.length := by
      rw [List.findIdx?_eq_some_iff_findIdx_eq] at e
      exact e.1
    have hd : atI (ls.map Ln.d) (j : Int) = some (Ln.d ls[j]) := atI_nat' (by simp [hj])
    simp [atD, hd, List.getElem?_eq_getElem hj]
def gapsP (t : List Nat) : List (Nat × Nat) := (60 :: t).flatMap fun l => (t ++ [62]).map fun r => (l, r)
theorem gaps_len (t : List Nat) : (gapsP t).length = (t.length + 1) * (t.length + 1) := by
  unfold gapsP
  have : ∀ (xs : List Nat), (xs.flatMap fun l => (t ++ [62]).map fun r => (l, r)).length = xs.length * (t.length + 1) := fun xs => by
    induction xs with
    | nil => simp
    | cons x xs ih => rw [List.flatMap_cons, List.length_append, ih]; simp [Nat.add_mul]; omega
  rw [this]
  simp
end G
namespace G
open PySem PySem.Spec PyProof.Rows L2 TL
theorem plA_all {n : Nat} : ∀ {xs : List D}, (∀ x ∈ xs, D.pl n x = true) → D.plA n xs = true
  | [], _ => by simp
  | x :: xs, h => by simp [h x (by simp), plA_all (n := n) (xs := xs) fun y hy => h y (by simp [hy])]
end G
namespace G
open PySem PySem.Spec PyProof.Rows L2 TL
theorem cut_two {α : Type} {xs : List α} {p : Nat} (h : p + 2 ≤ xs.length) : cut xs (some (p : Int)) (some ((p : Int) + 2)) = [xs[p], xs[p + 1]] := by
  unfold cut HT.sIx
  dsimp only
  rw [if_neg (by omega), if_neg (by omega)]
  rw [show min ((p : Int)).toNat xs.length = p by omega, show min ((p : Int) + 2).toNat xs.length = p + 2 by omega, show p + 2 - p = 2 by omega]
  rw [List.drop_eq_getElem_cons (show p < xs.length by omega), List.drop_eq_getElem_cons (show p + 1 < xs.length by omega)]
  rfl
/-- the row between its borders -/
def brd (row : List Nat) : List Nat := 60 :: (row ++ [62])
theorem brd_len {row : List Nat} : (brd row).length = row.length + 2 := by simp [brd]
/-- the question at a place -/
def gapQ (row : List Nat) (p c : Nat) : Qn := ⟨(brd row).getD p 0, (brd row).getD (p + 1) 0, c⟩
theorem brd_two {row : List Nat} {p c : Nat} (h : p ≤ row.length) : cut (brd row) (some (p : Int)) (some ((p : Int) + 2)) = [(gapQ row p c).l, (gapQ row p c).r] := by
  have hl := brd_len (row := row)
  rw [cut_two (by omega)]
  unfold gapQ
  rw [List.getD_eq_getElem?_getD, List.getD_eq_getElem?_getD, List.getElem?_eq_getElem (show p < (brd row).length by omega), List.getElem?_eq_getElem (show p + 1 < (brd row).length by omega)]
  rfl
theorem gapQ_ok {t u row : List Nat} {p c : Nat} (hr : ∀ x ∈ row, x ∈ t) (hp : p ≤ row.length) (hc : c ∈ u) : QnOk t u (gapQ row p c) := by
  have hl := brd_len (row := row)
  refine ⟨?_, ?_, hc⟩
  · unfold gapQ
    dsimp only
    rw [List.getD_eq_getElem?_getD, List.getElem?_eq_getElem (show p < (brd row).length by omega)]
    show (brd row)[p] ∈ _
    cases p with
    | zero => simp [brd]
    | succ n =>
      have : (brd row)[n + 1]'(by omega) = row[n] := by
        simp [brd]
        rw [List.getElem_append_left (by omega)]
      rw [this]
      exact List.mem_cons_of_mem _ (hr _ (List.getElem_mem _))
  · unfold gapQ
    dsimp only
    rw [List.getD_eq_getElem?_getD, List.getElem?_eq_getElem (show p + 1 < (brd row).length by omega)]
    show (brd row)[p + 1] ∈ _
    by_cases q : p < row.length
    · have : (brd row)[p + 1]'(by omega) = row[p] := by
        simp [brd]
        rw [List.getElem_append_left q]
      rw [this]
      exact List.mem_append_left _ (hr _ (List.getElem_mem _))
    · have e : p = row.length := by omega
      subst e
      have : (brd row)[row.length + 1]'(by omega) = 62 := by simp [brd]
      rw [this]
      simp
theorem gap_at_ok {row : List Nat} {p : Nat} (c : Nat) (h : p ≤ row.length) (hn : row.length ≤ 1000) {M : Mem} : m_gap_at [.d (.str row), .d (.int p)] M = .ok (.d (.str [(gapQ row p c).l, (gapQ row p c).r])) M := by
  have hlim := lim_eq
  have e := brd_two (c := c) h
  unfold brd at e
  unfold m_gap_at
  rw [fnM_eq]
  unfold b_gap_at
  simp (disch := first | (simp; done) | omega) [ifl, e]
def gapsL (row : List Nat) : List D := (List.range' 0 (row.length + 1)).map fun p => .str [(gapQ row p 0).l, (gapQ row p 0).r]
theorem law_row_gaps_ok {row : List Nat} (hn : row.length ≤ 1000) {M : Mem} : m__law_row_gaps [.d (.str row)] M = .ok (.d (.lst (gapsL row))) M := by
  have hlim := lim_eq
  unfold m__law_row_gaps
  rw [fnM_eq]
  unfold b__law_row_gaps
  simp
  unfold m__law_parts
  rw [fnM_eq]
  unfold b__law_parts
  simp (disch := first | (simp; done) | omega) [ifl]
  rw [range_eq]
  rw [compL_mapA (fun (i : Nat) => D.int i) (fun p => D.str [(gapQ row p 0).l, (gapQ row p 0).r]) (List.range' 0 (row.length + 1)) [] (fun p hp => by
    have := (List.mem_range'_1.mp hp).2
    have e := brd_two (row := row) (p := p) (c := 0) (by omega)
    unfold brd at e
    simp (disch := first | (simp; done) | omega) [ifl, e]) (by simp; omega)]
  simp [gapsL]
theorem gapsL_at {row : List Nat} {p c : Nat} (h : p ≤ row.length) : atI (gapsL row) (p : Int) = some (.str [(gapQ row p c).l, (gapQ row p c).r]) := by
  refine atI_nat' ?_
  unfold gapsL
  rw [List.getElem?_map, List.getElem?_range' (by omega)]
  simp [gapQ]
def behR (ls : List Ln) (row : List Nat) (p c : Nat) : List Nat := row.take p ++ (wordQ ls (gapQ row p c) ++ row.drop p)
theorem wordQ_ok {t u : List Nat} {ls : List Ln} (h : ∀ l ∈ ls, LnOk t u l) (q : Qn) : (∀ x ∈ wordQ ls q, x ∈ t) ∧ (wordQ ls q).length ≤ 3 := by
  unfold wordQ
  cases e : ls.find? (fitL q) with
  | none => simp
  | some l =>
    have := h l (List.mem_of_find?_eq_some e)
    exact ⟨this.w, this.n⟩
theorem behR_sub {t u : List Nat} {ls : List Ln} (h : ∀ l ∈ ls, LnOk t u l) {row : List Nat} (hr : ∀ x ∈ row, x ∈ t) (p c : Nat) : ∀ x ∈ behR ls row p c, x ∈ t := fun x hx => by
  unfold behR at hx
  rcases List.mem_append.mp hx with hx | hx
  · exact hr x (List.mem_of_mem_take hx)
  · rcases List.mem_append.mp hx with hx | hx
    · exact (wordQ_ok h _).1 x hx
    · exact hr x (List.mem_of_mem_drop hx)
theorem behR_len {t u : List Nat} {ls : List Ln} (h : ∀ l ∈ ls, LnOk t u l) {row : List Nat} (p c : Nat) : (behR ls row p c).length ≤ row.length + 3 := by
  have := (wordQ_ok h (gapQ row p c)).2
  unfold behR
  simp
  omega
end G
namespace G
open PySem PySem.Spec PyProof.Rows L2 TL
def stepD (s : Nat × Nat) : D := .tup [.int s.1, .str [s.2]]
/-- steps that can be played, no row longer than 60 -/
def okS (u : List Nat) (ls : List Ln) : List Nat → List (Nat × Nat) → Prop
  | _, [] => True
  | row, s :: r => s.1 ≤ row.length ∧ s.2 ∈ u ∧ (behR ls row s.1 s.2).length ≤ 60 ∧ okS u ls (behR ls row s.1 s.2) r
end G
namespace G
open PySem PySem.Spec PyProof.Rows L2 TL
def clrM (o : Option MO) (j : Nat) (M : Mem) : Res VD := match o with
  | some (.lst _) => .ok (.d .non) (M.set j (.lst []))
  | _ => .fail
def clrK (r : Res VD) : Res VD := r.bind f_clr
@[simp] theorem e_clr_eq {a ρ M} : e_clr a ρ M = clrK (a ρ M) := nrfl rfl
@[simp] theorem clrK_a {j : Nat} {M : Mem} : clrK (.ok (.adr j) M) = clrM (M[j]?) j M := nrfl rfl
@[simp] theorem clrM_ok {ds} {j : Nat} {M : Mem} : clrM (some (.lst ds)) j M = .ok (.d .non) (M.set j (.lst [])) := nrfl rfl
end G
namespace G
open PySem PySem.Spec PyProof.Rows L2 TL
section
variable (ls : List Ln) (row : List Nat) (p : Nat) (cs : List Nat)
def lefW (ws : List (List Nat)) (a : Nat) : List Nat := row.take p ++ (ws.take a).flatten
def rigW (ws : List (List Nat)) (a : Nat) : List Nat := (ws.drop (a + 1)).flatten ++ row.drop p
def newW (ws : List (List Nat)) (a : Nat) : List Nat := wordQ ls (gapQ (lefW row p ws a ++ rigW row p ws a) (lefW row p ws a).length (cs.getD a 0))
def besW : List (List Nat) → List Nat → List (List Nat)
  | ws, [] => ws
  | ws, a :: r => besW (ws.set a (newW ls row p cs ws a)) r
/-- what is left to be done: each place once, its word still empty; words short, of the kinds -/
structure Bes (t u : List Nat) (ws : List (List Nat)) (rest : List Nat) : Prop where
  n : ws.length = cs.length
  nd : rest.Nodup
  lt : ∀ a ∈ rest, a < cs.length
  em : ∀ a ∈ rest, ws[a]? = some []
  sh : ∀ w ∈ ws, w.length ≤ 3
  su : ∀ w ∈ ws, ∀ x ∈ w, x ∈ t
end
theorem Bes.next {ls : List Ln} {row cs : List Nat} {p : Nat} {t u : List Nat} {ws : List (List Nat)} {a : Nat} {rest : List Nat} (hl : ∀ l ∈ ls, LnOk t u l) (h : Bes cs t u ws (a :: rest)) : Bes cs t u (ws.set a (newW ls row p cs ws a)) rest := by
  obtain ⟨n, nd, lt, em, sh, su⟩ := h
  have nd' := List.nodup_cons.mp nd
  have hw := wordQ_ok hl (gapQ (lefW row p ws a ++ rigW row p ws a) (lefW row p ws a).length (cs.getD a 0))
  refine ⟨by rw [List.length_set, n], nd'.2, fun b hb => lt b (List.mem_cons_of_mem _ hb), fun b hb => ?_, fun w hw' => ?_, fun w hw' => ?_⟩
  · rw [List.getElem?_set_ne (fun e => nd'.1 (by rw [e]; exact hb))]
    exact em b (List.mem_cons_of_mem _ hb)
  · rcases List.mem_or_eq_of_mem_set hw' with hw' | rfl
    · exact sh w hw'
    · exact hw.2
  · rcases List.mem_or_eq_of_mem_set hw' with hw' | rfl
    · exact su w hw'
    · exact hw.1
theorem law_word_ok {t u : List Nat} {ls : List Ln} {q : Qn} {M : Mem} : m__law_word [.d (specD t u ls), .d (.str [q.l, q.r]), .d (.str [q.c])] M = .ok (.d (.str (wordQ ls q))) M := by
  have e := law_line_at_ok (t := t) (u := u) (ls := ls) (q := q) (M := M)
  unfold m__law_word
  rw [fnM_eq]
  unfold b__law_word
  simp [e]
  unfold wordQ
  rw [findIdx_find]
  cases e : ls.findIdx? (fitL q) with
  | none => simp [atD]
  | some j =>
    have hj : j < ls.length := by
      rw [List.findIdx?_eq_some_iff_findIdx_eq] at e
      exact e.1
    have hd : atI (ls.map Ln.d) (j : Int) = some (Ln.d ls[j]) := atI_nat' (by simp [hj])
    simp [atD, hd, List.getElem?_eq_getElem hj]
end G
namespace G
open PySem PySem.Spec PyProof.Rows L2 TL
def raK (c : Nat) (code : List Nat) (r : Res (List VD)) : Out := r.out (raiseV c code)
@[simp] theorem s_raise_eq {c code ms ρ M} : s_raise c code ms ρ M = raK c code (ms ρ M) := nrfl rfl
@[simp] theorem raK_ok {c code z M} : raK c code (.ok [.d z] M) = .exc c [.str code, z] M := nrfl rfl
@[simp] theorem seqK_exc {c fs M b} : seqK (.exc c fs M) b = .exc c fs M := nrfl rfl
@[simp] theorem retK_exc {c fs M} : retK (.exc c fs M) = .exc c fs M := nrfl rfl
@[simp] theorem exprK_exc {c fs M ρ} : exprK (.exc c fs M) ρ = .exc c fs M := nrfl rfl
@[simp] theorem asgK_exc {c fs M mg ρ} : asgK (.exc c fs M) mg ρ = .exc c fs M := nrfl rfl
@[simp] theorem consK_exc {c fs M t ρ} : consK (.exc c fs M) t ρ = .exc c fs M := nrfl rfl
@[simp] theorem consK2_exc {c fs M v} : consK2 v (.exc c fs M) = .exc c fs M := nrfl rfl
@[simp] theorem callK_exc {n m c fs M} : callK n m (.exc c fs M) = .exc c fs M := nrfl rfl
@[simp] theorem callPK_exc {m c fs M} : callPK m (.exc c fs M) = .exc c fs M := nrfl rfl
@[simp] theorem methK1_exc {m x c fs M} : methK1 true m x (.exc c fs M) = .exc c fs M := nrfl rfl
@[simp] theorem methK_exc {c' m c fs M ms ρ} : methK c' m (.exc c fs M) ms ρ = .exc c fs M := nrfl rfl
@[simp] theorem tupK_exc {c fs M} : tupK (.exc c fs M) = .exc c fs M := nrfl rfl
@[simp] theorem lstK_exc {c fs M} : lstK (.exc c fs M) = .exc c fs M := nrfl rfl
@[simp] theorem flK2_exc {c fs M mg body xs} : flK2 (.exc c fs M) mg body xs = .exc c fs M := nrfl rfl
def fnXK (n : Nat) (o : Out) : Res VD := trimX n (match o with
  | .nx _ M1 => .ok (.d .non) M1
  | .ret v M1 => .ok v M1
  | .exc c fs M1 => .exc c fs M1
  | _ => .fail)
@[simp] theorem fnXK_ret {n v M} : fnXK n (.ret v M) = trim n (.ok v M) := nrfl rfl
@[simp] theorem fnXK_nx {n ρ M} : fnXK n (.nx ρ M) = trim n (.ok (.d .non) M) := nrfl rfl
@[simp] theorem fnXK_exc {c fs M} : fnXK M.length (.exc c fs M) = .exc c fs M := by
  show (if (M.take M.length).all (moLt M.length) then Res.exc c fs (M.take M.length) else Res.exc c fs M) = _
  rw [List.take_of_length_le (Nat.le_refl _)]
  split <;> rfl
@[simp] theorem e_lam_eq {k ρ M} : e_lam k ρ M = .ok (.d (.clo k)) M := nrfl rfl
def lamcK (m : Env → List VD → Mem → Res VD) (r : Res (List VD)) (ρ : Env) : Res VD := r.bind fun vs M1 => if vs.length = 1 then m (dOnly ρ) vs M1 else .fail
@[simp] theorem e_lamcall_eq {m ms ρ M} : e_lamcall m ms ρ M = lamcK m (ms ρ M) ρ := nrfl rfl
@[simp] theorem lamcK_ok {m v ρ M} : lamcK m (.ok [v] M) ρ = m (dOnly ρ) [v] M := nrfl rfl
@[simp] theorem f_mulS_s {s j M} : f_mulS (.d (.str s)) (.d (.int j)) M = gi (0 ≤ j ∧ j ≤ 1000 ∧ s.length ≤ 1000) (.ok (.d (.str (List.replicate j.toNat s).flatten)) M) .fail := nrfl rfl
@[simp] theorem f_low_s {s M} : f_low (.d (.str s)) M = if s.all (· < 128) ∧ s.length ≤ 5000000 then .ok (.d (.str (s.map lowC))) M else .fail := nrfl rfl
@[simp] theorem f_upp_s {s M} : f_upp (.d (.str s)) M = if s.all (· < 128) ∧ s.length ≤ 5000000 then .ok (.d (.str (s.map upC))) M else .fail := nrfl rfl
def dO : Option VD → Option VD
  | some (.d x) => some (.d x)
  | _ => none
@[simp] theorem dOnly_nil : dOnly [] = [] := nrfl rfl
@[simp] theorem dOnly_cons {x : Option VD} {ρ : Env} : dOnly (x :: ρ) = dO x :: dOnly ρ := nrfl rfl
@[simp] theorem dO_n : dO none = none := nrfl rfl
@[simp] theorem dO_d {d : D} : dO (some (.d d)) = some (.d d) := nrfl rfl
@[simp] theorem dO_a {j : Nat} : dO (some (.adr j)) = none := nrfl rfl
@[simp] theorem fnXK_exc1 {c : Nat} {fs : List D} {M : Mem} {x : MO} : fnXK (List.length M + 1) (.exc c fs (M ++ [x])) = .exc c fs (M ++ [x]) := by
  have := fnXK_exc (c := c) (fs := fs) (M := M ++ [x])
  rwa [List.length_append] at this
end G
namespace G
open PySem PySem.Spec PyProof.Rows L2 TL
@[simp] theorem opK_exc {f c fs M b ρ} : opK f (.exc c fs M) b ρ = .exc c fs M := nrfl rfl
@[simp] theorem opK2_exc {f x c fs M} : opK2 f x (.exc c fs M) = .exc c fs M := nrfl rfl
@[simp] theorem biK_exc {f c fs M} : biK f (.exc c fs M) = .exc c fs M := nrfl rfl
@[simp] theorem truthK_exc {c fs M} : truthK (.exc c fs M) = .exc c fs M := nrfl rfl
@[simp] theorem asBK_exc {c fs M} : asBK (.exc c fs M) = .exc c fs M := nrfl rfl
@[simp] theorem sifK_exc {c fs M a b ρ} : sifK (.exc c fs M) a b ρ = .exc c fs M := nrfl rfl
@[simp] theorem fldK_exc {tab c fs M} : fldK tab (.exc c fs M) = .exc c fs M := nrfl rfl
end G
namespace G
open PySem PySem.Spec PyProof.Rows L2 TL
abbrev Gp := Nat × Nat
theorem len_subF {α : Type} [BEq α] [LawfulBEq α] : ∀ {l m : List α}, l.Nodup → (∀ x ∈ l, x ∈ m) → l.length ≤ m.length
  | [], _, _, _ => Nat.zero_le _
  | a :: l, m, h, hs => by
    rw [List.nodup_cons] at h
    have ha := hs a List.mem_cons_self
    have := len_subF (l := l) (m := m.erase a) h.2 fun x hx => (List.mem_erase_of_ne fun e => h.1 (by rw [← e]; exact hx)).mpr (hs x (List.mem_cons_of_mem _ hx))
    rw [List.length_erase_of_mem ha] at this
    have := List.length_pos_of_mem ha
    simp
    omega
/-- a gap that can come, the births ahead of it, the turn that makes it -/
structure En where
  g : Gp
  n : Nat
  o : Option (Gp × Nat × Nat)
/-- the gaps of a word between two letters -/
def partsG (g : Gp) (w : List Nat) : List Gp := (List.range' 0 (w.length + 1)).map fun i => ((g.1 :: (w ++ [g.2])).getD i 0, (g.1 :: (w ++ [g.2])).getD (i + 1) 0)
def addE (S : List En) (e : En) : List En := if e.g ∈ S.map (·.g) then S else S ++ [e]
def addP (e : En) (c : Nat) : Nat → List Gp → List En → List En
  | _, [], S => S
  | i, p :: ps, S => addP e c (i + 1) ps (addE S ⟨p, e.n + 1, some (e.g, c, i)⟩)
abbrev wQ (ls : List Ln) (g : Gp) (c : Nat) : List Nat := wordQ ls ⟨g.1, g.2, c⟩
def addC (ls : List Ln) (e : En) : List Nat → List En → List En
  | [], S => S
  | c :: cs, S => addC ls e cs (if wQ ls e.g c = [] then S else addP e c 0 (partsG e.g (wQ ls e.g c)) S)
def stepI (ls : List Ln) (u : List Nat) (k : Nat) (S : List En) : List En := match S[k]? with
  | none => S
  | some e => addC ls e u S
/-- what is known of a state: unlike gaps, all of them right, each turn of an earlier entry -/
structure EnOk (t u : List Nat) (ls : List Ln) (R : List Gp) (S : List En) : Prop where
  nd : (S.map (·.g)).Nodup
  sub : ∀ e ∈ S, e.g.1 ∈ 60 :: t ∧ e.g.2 ∈ t ++ [62]
  tr : ∀ e ∈ S, match e.o with
    | none => e.n = 0 ∧ e.g ∈ R
    | some (h, c, i) => c ∈ u ∧ (partsG h (wQ ls h c))[i]? = some e.g ∧ ∃ f ∈ S, f.g = h ∧ e.n = f.n + 1
theorem partsG_at {g : Gp} {w : List Nat} {i : Nat} : (partsG g w)[i]? = if i < w.length + 1 then some ((g.1 :: (w ++ [g.2])).getD i 0, (g.1 :: (w ++ [g.2])).getD (i + 1) 0) else none := by
  unfold partsG
  rw [List.getElem?_map]
  split
  · rename_i h
    rw [List.getElem?_range' (by omega)]
    simp
  · rename_i h
    rw [List.getElem?_eq_none (by simp; omega)]
    rfl
theorem partsG_len {g : Gp} {w : List Nat} : (partsG g w).length = w.length + 1 := by simp [partsG]
theorem gd_mem {xs : List Nat} {i : Nat} (h : i < xs.length) : xs.getD i 0 ∈ xs := by
  rw [List.getD_eq_getElem?_getD, List.getElem?_eq_getElem h]
  exact List.getElem_mem h
/-- the letters of a part -/
theorem partsG_sub {t : List Nat} {g : Gp} {w : List Nat} (h1 : g.1 ∈ 60 :: t) (h2 : g.2 ∈ t ++ [62]) (hw : ∀ x ∈ w, x ∈ t) : ∀ p ∈ partsG g w, p.1 ∈ 60 :: t ∧ p.2 ∈ t ++ [62] := by
  intro p hp
  obtain ⟨i, hi⟩ := List.mem_iff_getElem?.mp hp
  rw [partsG_at] at hi
  split at hi
  · rename_i hl
    cases hi
    constructor
    · show (g.1 :: (w ++ [g.2])).getD i 0 ∈ _
      rw [← List.cons_append]
      have : (g.1 :: w ++ [g.2]).getD i 0 = (g.1 :: w).getD i 0 := by
        rw [List.getD_eq_getElem?_getD, List.getD_eq_getElem?_getD, List.getElem?_append_left (by simp; omega)]
      rw [this]
      have := gd_mem (xs := g.1 :: w) (i := i) (by simp; omega)
      rcases List.mem_cons.mp this with e | e
      · rw [e]; exact h1
      · exact List.mem_cons_of_mem _ (hw _ e)
    · show (g.1 :: (w ++ [g.2])).getD (i + 1) 0 ∈ _
      rw [List.getD_cons_succ]
      have := gd_mem (xs := w ++ [g.2]) (i := i) (by simp; omega)
      rcases List.mem_append.mp this with e | e
      · exact List.mem_append_left _ (hw _ e)
      · rw [List.mem_singleton.mp e]; exact h2
  · cases hi
theorem addE_pre (S : List En) (e : En) : S <+: addE S e := by
  unfold addE
  split
  · exact List.prefix_refl _
  · exact List.prefix_append _ _
theorem addP_pre {e : En} {c : Nat} : ∀ (i : Nat) (ps : List Gp) (S : List En), S <+: addP e c i ps S
  | _, [], S => List.prefix_refl _
  | i, p :: ps, S => (addE_pre S _).trans (addP_pre (i + 1) ps _)
section
variable {t u : List Nat} {ls : List Ln} {R : List Gp}
theorem EnOk.add {S : List En} (h : EnOk t u ls R S) {e : En} (h1 : e.g.1 ∈ 60 :: t ∧ e.g.2 ∈ t ++ [62]) (h2 : match e.o with
    | none => e.n = 0 ∧ e.g ∈ R
    | some (h, c, i) => c ∈ u ∧ (partsG h (wQ ls h c))[i]? = some e.g ∧ ∃ f ∈ S, f.g = h ∧ e.n = f.n + 1) : EnOk t u ls R (addE S e) := by
  unfold addE
  split
  · exact h
  · rename_i hm
    refine ⟨?_, fun x hx => ?_, fun x hx => ?_⟩
    · rw [List.map_append, List.map_cons, List.map_nil]
      exact List.nodup_append.mpr ⟨h.nd, by simp, fun a ha b hb => by
        rw [List.mem_singleton.mp hb]
        exact fun q => hm (q ▸ ha)⟩
    · rcases List.mem_append.mp hx with q | q
      · exact h.sub x q
      · rw [List.mem_singleton.mp q]
        exact h1
    · rcases List.mem_append.mp hx with q | q
      · have := h.tr x q
        split at this
        · exact this
        · obtain ⟨q1, q2, f, q3, q4⟩ := this
          exact ⟨q1, q2, f, List.mem_append_left _ q3, q4⟩
      · rw [List.mem_singleton.mp q]
        split at h2
        · exact h2
        · obtain ⟨q1, q2, f, q3, q4⟩ := h2
          exact ⟨q1, q2, f, List.mem_append_left _ q3, q4⟩
theorem EnOk.addP {e : En} {c : Nat} (hc : c ∈ u) : ∀ (ps : List Gp) (i : Nat) {S : List En}, EnOk t u ls R S → e ∈ S → (∀ p ∈ ps, p.1 ∈ 60 :: t ∧ p.2 ∈ t ++ [62]) → (∀ j p, ps[j]? = some p → (partsG e.g (wQ ls e.g c))[i + j]? = some p) → EnOk t u ls R (addP e c i ps S)
  | [], _, _, h, _, _, _ => h
  | p :: ps, i, S, h, he, hp, hi => by
    refine EnOk.addP hc ps (i + 1) (h.add (e := ⟨p, e.n + 1, some (e.g, c, i)⟩) (hp p List.mem_cons_self) ⟨hc, hi 0 p rfl, e, he, rfl, rfl⟩) ((addE_pre S _).subset he) (fun q hq => hp q (List.mem_cons_of_mem _ hq)) fun j q hq => ?_
    have := hi (j + 1) q (by simpa using hq)
    rw [show i + 1 + j = i + (j + 1) by omega]
    exact this
theorem EnOk.addC (hl : ∀ l ∈ ls, LnOk t u l) {e : En} : ∀ (cs : List Nat) {S : List En}, EnOk t u ls R S → e ∈ S → (∀ c ∈ cs, c ∈ u) → EnOk t u ls R (addC ls e cs S)
  | [], _, h, _, _ => h
  | c :: cs, S, h, he, hc => by
    unfold G.addC
    split
    · exact EnOk.addC hl cs h he fun d hd => hc d (List.mem_cons_of_mem _ hd)
    · refine EnOk.addC hl cs (h.addP (hc c List.mem_cons_self) _ 0 he (partsG_sub (h.sub e he).1 (h.sub e he).2 (wordQ_ok hl _).1) fun j p hp => by rw [Nat.zero_add]; exact hp) ((addP_pre 0 _ S).subset he) fun d hd => hc d (List.mem_cons_of_mem _ hd)
theorem EnOk.step (hl : ∀ l ∈ ls, LnOk t u l) {S : List En} (h : EnOk t u ls R S) (k : Nat) : EnOk t u ls R (stepI ls u k S) := by
  unfold stepI
  split
  · exact h
  · rename_i e q
    exact h.addC hl u (List.mem_of_getElem? q) fun _ hc => hc
theorem EnOk.le {S : List En} (h : EnOk t u ls R S) : S.length ≤ (t.length + 1) * (t.length + 1) := by
  have := len_subF (l := S.map (·.g)) (m := gapsP t) h.nd fun g hg => by
    obtain ⟨e, he, rfl⟩ := List.mem_map.mp hg
    have := h.sub e he
    unfold gapsP
    rw [List.mem_flatMap]
    exact ⟨e.g.1, this.1, List.mem_map.mpr ⟨e.g.2, this.2, rfl⟩⟩
  rw [gaps_len, List.length_map] at this
  exact this
end
end G
namespace G
/-- a stretch: letters and slots; a slot is empty or holds a birth with its own stretch -/
inductive Sg (α β : Type) where
  | nil | lett (k : Nat) (r : Sg α β) | gap (a : α) (r : Sg α β) | born (b : β) (i r : Sg α β)
namespace Sg
variable {α β γ δ : Type}
def exp : Sg α β → List Nat
  | nil => []
  | lett k r => k :: exp r
  | gap _ r => exp r
  | born _ i r => exp i ++ exp r
/-- the letters of its own -/
def letts : Sg α β → List Nat
  | nil => []
  | lett k r => k :: letts r
  | gap _ r => letts r
  | born _ _ r => letts r
def gaps : Sg α β → List α
  | nil => []
  | lett _ r => gaps r
  | gap a r => a :: gaps r
  | born _ i r => gaps i ++ gaps r
/-- its births with their stretches -/
def subs : Sg α β → List (β × Sg α β)
  | nil => []
  | lett _ r => subs r
  | gap _ r => subs r
  | born b i r => (b, i) :: (subs i ++ subs r)
/-- slots and letters by turns, a slot first -/
def Alt : Bool → Sg α β → Prop
  | true, gap _ r => Alt false r
  | true, born _ i r => Alt true i ∧ Alt false r
  | false, nil => True
  | false, lett _ r => Alt true r
  | _, _ => False
/-- a birth in the p-th empty slot -/
def ins (f : α → β × Sg α β) : Sg α β → Nat → Sg α β
  | nil, _ => nil
  | lett k r, p => lett k (ins f r p)
  | gap a r, 0 => born (f a).1 (f a).2 r
  | gap a r, p + 1 => gap a (ins f r p)
  | born b i r, p => if p < i.gaps.length then born b (ins f i p) r else born b i (ins f r (p - i.gaps.length))
def size : Sg α β → Nat
  | nil => 0
  | lett _ r => size r + 1
  | gap _ r => size r + 1
  | born _ i r => size i + size r + 1
/-- the sum of the amounts of its births -/
def tot (m : β → Nat) : Sg α β → Nat
  | nil => 0
  | lett _ r => tot m r
  | gap _ r => tot m r
  | born b i r => m b + tot m i + tot m r
theorem alt_len : ∀ (x : Bool) (s : Sg α β), Alt x s → s.gaps.length = s.exp.length + x.toNat
  | true, gap a r, h => by
    have := alt_len false r h
    simp [gaps, exp] at this ⊢
    omega
  | true, born b i r, h => by
    have h1 := alt_len true i h.1
    have h2 := alt_len false r h.2
    simp [gaps, exp] at h1 h2 ⊢
    omega
  | false, nil, _ => rfl
  | false, lett k r, h => by
    have := alt_len true r h
    simp [gaps, exp] at this ⊢
    omega
  | true, nil, h => h.elim
  | true, lett _ _, h => h.elim
  | false, gap _ _, h => h.elim
  | false, born _ _ _, h => h.elim
theorem alt_ins {f : α → β × Sg α β} (hf : ∀ a, Alt true (f a).2) : ∀ (x : Bool) (s : Sg α β) (p : Nat), Alt x s → Alt x (ins f s p)
  | true, gap a r, 0, h => ⟨hf a, h⟩
  | true, gap a r, p + 1, h => alt_ins hf false r p h
  | true, born b i r, p, h => by
    unfold ins
    split
    · exact ⟨alt_ins hf true i p h.1, h.2⟩
    · exact ⟨h.1, alt_ins hf false r _ h.2⟩
  | false, nil, _, _ => trivial
  | false, lett k r, p, h => alt_ins hf true r p h
  | true, nil, _, h => h.elim
  | true, lett _ _, _, h => h.elim
  | false, gap _ _, _, h => h.elim
  | false, born _ _ _, _, h => h.elim
theorem letts_ins {f : α → β × Sg α β} : ∀ (s : Sg α β) (p : Nat), (ins f s p).letts = s.letts
  | nil, _ => rfl
  | lett k r, p => by simp [ins, letts, letts_ins r p]
  | gap a r, 0 => rfl
  | gap a r, p + 1 => by simp [ins, letts, letts_ins r p]
  | born b i r, p => by
    unfold ins
    split <;> simp [letts, letts_ins]
theorem gaps_ins {f : α → β × Sg α β} {a : α} : ∀ (s : Sg α β) (p : Nat), s.gaps[p]? = some a → (ins f s p).gaps = s.gaps.take p ++ ((f a).2.gaps ++ s.gaps.drop (p + 1))
  | nil, _, h => by simp [gaps] at h
  | lett k r, p, h => by
    show (ins f r p).gaps = _
    rw [gaps_ins r p h]
    rfl
  | gap b r, 0, h => by
    simp [gaps] at h
    subst h
    simp [ins, gaps]
  | gap b r, p + 1, h => by
    have h : r.gaps[p]? = some a := by simpa [gaps] using h
    simp [ins, gaps, gaps_ins r p h]
  | born b i r, p, h => by
    have h : (i.gaps ++ r.gaps)[p]? = some a := h
    show (ins f (born b i r) p).gaps = (i.gaps ++ r.gaps).take p ++ ((f a).2.gaps ++ (i.gaps ++ r.gaps).drop (p + 1))
    unfold ins
    split
    · rename_i hp
      rw [List.getElem?_append_left hp] at h
      show (ins f i p).gaps ++ r.gaps = _
      rw [gaps_ins i p h, List.take_append_of_le_length (by omega), List.drop_append_of_le_length (by omega)]
      simp [List.append_assoc]
    · rename_i hp
      rw [List.getElem?_append_right (by omega)] at h
      show i.gaps ++ (ins f r _).gaps = _
      rw [gaps_ins r _ h, List.take_append, List.drop_append, List.take_of_length_le (l := i.gaps) (by omega), List.drop_eq_nil_of_le (as := i.gaps) (by omega)]
      have e : p + 1 - i.gaps.length = p - i.gaps.length + 1 := by omega
      rw [e]
      simp [List.append_assoc]
theorem tot_ins {f : α → β × Sg α β} {a : α} {m : β → Nat} : ∀ (s : Sg α β) (p : Nat), s.gaps[p]? = some a → tot m (ins f s p) = tot m s + m (f a).1 + tot m (f a).2
  | nil, _, h => by simp [gaps] at h
  | lett k r, p, h => tot_ins r p h
  | gap b r, 0, h => by
    simp [gaps] at h
    subst h
    simp [ins, tot]
    omega
  | gap b r, p + 1, h => by
    have h : r.gaps[p]? = some a := by simpa [gaps] using h
    simp [ins, tot, tot_ins r p h]
  | born b i r, p, h => by
    have h : (i.gaps ++ r.gaps)[p]? = some a := h
    unfold ins
    split
    · rename_i hp
      rw [List.getElem?_append_left hp] at h
      simp [tot, tot_ins i p h]
      omega
    · rename_i hp
      rw [List.getElem?_append_right (by omega)] at h
      simp [tot, tot_ins r _ h]
      omega
theorem size_ins {f : α → β × Sg α β} {a : α} : ∀ (s : Sg α β) (p : Nat), s.gaps[p]? = some a → size (ins f s p) = size s + size (f a).2
  | nil, _, h => by simp [gaps] at h
  | lett k r, p, h => by
    have := size_ins (f := f) r p h
    simp [ins, size]
    omega
  | gap b r, 0, h => by
    simp [gaps] at h
    subst h
    simp [ins, size]
    omega
  | gap b r, p + 1, h => by
    have h : r.gaps[p]? = some a := by simpa [gaps] using h
    simp [ins, size, size_ins r p h]
    omega
  | born b i r, p, h => by
    have h : (i.gaps ++ r.gaps)[p]? = some a := h
    unfold ins
    split
    · rename_i hp
      rw [List.getElem?_append_left hp] at h
      simp [size, size_ins i p h]
      omega
    · rename_i hp
      rw [List.getElem?_append_right (by omega)] at h
      simp [size, size_ins r _ h]
      omega
/-- labels turned into others -/
def map (u : α → γ) (v : β → δ) : Sg α β → Sg γ δ
  | nil => nil
  | lett k r => lett k (map u v r)
  | gap a r => gap (u a) (map u v r)
  | born b i r => born (v b) (map u v i) (map u v r)
end Sg
/-- where a birth stands: its parent (none: the start), the part -/
abbrev Hm := Option Nat × Nat
/-- a letter: kind, owner, index in its word -/
abbrev Lt := Nat × Option Nat × Nat
/-- a birth: comer, word, home; the gap in which it was born -/
structure Br where
  c : Nat
  w : List Nat
  h : Hm
  g : Gp
/-- an empty slot, a birth in a tree -/
abbrev SlA := Gp × Hm
abbrev Tree := Sg SlA (Nat × Br)
namespace Sg
/-- the stretch of a word whose births are looked for: o, from part j on -/
def fresh (o : Option Nat) : Nat → Nat → List Nat → Nat → Tree
  | j, l, [], r => gap ((l, r), (o, j)) nil
  | j, l, k :: w, r => gap ((l, k), (o, j)) (lett k (fresh o (j + 1) k w r))
theorem fresh_alt (o : Option Nat) : ∀ (w : List Nat) (j l r : Nat), Alt true (fresh o j l w r)
  | [], _, _, _ => trivial
  | k :: w, j, l, r => fresh_alt o w (j + 1) k r
theorem fresh_exp (o : Option Nat) : ∀ (w : List Nat) (j l r : Nat), (fresh o j l w r).exp = w
  | [], _, _, _ => rfl
  | k :: w, j, l, r => by simp [fresh, exp, fresh_exp o w]
theorem fresh_letts (o : Option Nat) : ∀ (w : List Nat) (j l r : Nat), (fresh o j l w r).letts = w
  | [], _, _, _ => rfl
  | k :: w, j, l, r => by simp [fresh, letts, fresh_letts o w]
theorem fresh_size (o : Option Nat) : ∀ (w : List Nat) (j l r : Nat), (fresh o j l w r).size = 2 * w.length + 1
  | [], _, _, _ => rfl
  | k :: w, j, l, r => by
    simp [fresh, size, fresh_size o w]
    omega
theorem fresh_tot (o : Option Nat) {m} : ∀ (w : List Nat) (j l r : Nat), (fresh o j l w r).tot m = 0
  | [], _, _, _ => rfl
  | k :: w, j, l, r => by simp [fresh, tot, fresh_tot o w]
theorem fresh_home (o : Option Nat) : ∀ (w : List Nat) (j l r : Nat), (fresh o j l w r).gaps.map (·.2) = (List.range' j (w.length + 1)).map fun i => (o, i)
  | [], _, _, _ => rfl
  | k :: w, j, l, r => by
    show (o, j) :: (fresh o (j + 1) k w r).gaps.map (·.2) = _
    rw [fresh_home o w, List.length_cons, List.range'_succ (n := w.length + 1)]
    rfl
theorem partsG_nil {l r : Nat} : partsG (l, r) [] = [(l, r)] := rfl
theorem partsG_cons {l r k : Nat} {w : List Nat} : partsG (l, r) (k :: w) = (l, k) :: partsG (k, r) w := by
  refine List.ext_getElem? fun i => ?_
  rw [partsG_at]
  cases i with
  | zero => simp
  | succ i =>
    rw [List.getElem?_cons_succ, partsG_at]
    by_cases h : i < w.length + 1
    · rw [if_pos (by simp; omega), if_pos h]
      simp
    · rw [if_neg (by simp; omega), if_neg h]
theorem fresh_gap (o : Option Nat) : ∀ (w : List Nat) (j l r : Nat), (fresh o j l w r).gaps.map (·.1) = partsG (l, r) w
  | [], _, _, _ => rfl
  | k :: w, j, l, r => by
    rw [partsG_cons]
    show (l, k) :: (fresh o (j + 1) k w r).gaps.map (·.1) = _
    rw [fresh_gap o w]
/-- the letters with their owners -/
def lts : Option Nat → Nat → Tree → List Lt
  | _, _, nil => []
  | o, j, lett k r => (k, o, j) :: lts o (j + 1) r
  | o, j, gap _ r => lts o j r
  | o, j, born b i r => lts (some b.1) 0 i ++ lts o j r
theorem lts_exp : ∀ (s : Tree) (o : Option Nat) (j : Nat), (lts o j s).map (·.1) = s.exp
  | nil, _, _ => rfl
  | lett k r, o, j => by simp [lts, exp, lts_exp r]
  | gap a r, o, j => by simp [lts, exp, lts_exp r]
  | born b i r, o, j => by simp [lts, exp, lts_exp r, lts_exp i]
theorem lts_len (s : Tree) (o : Option Nat) (j : Nat) : (lts o j s).length = s.exp.length := by rw [← lts_exp s o j, List.length_map]
theorem fresh_lts (o : Option Nat) : ∀ (w : List Nat) (j l r : Nat) (n : Nat), lts (some n) j (fresh o j l w r) = w.mapIdx fun i k => (k, some n, j + i)
  | [], _, _, _, _ => rfl
  | k :: w, j, l, r, n => by
    show (k, some n, j) :: lts (some n) (j + 1) (fresh o (j + 1) k w r) = _
    rw [fresh_lts o w, List.mapIdx_cons]
    refine congr (congrArg _ rfl) ?_
    refine List.ext_getElem? fun i => ?_
    simp only [List.getElem?_mapIdx]
    cases w[i]? <;> simp
    omega
/-- what is born in the slot a as birth n -/
def newB (W : Gp → Nat → List Nat) (n c : Nat) (a : SlA) : (Nat × Br) × Tree := ((n, ⟨c, W a.1 c, a.2, a.1⟩), fresh (some n) 0 a.1.1 (W a.1 c) a.1.2)
theorem ins_lts {f : SlA → (Nat × Br) × Tree} {a : SlA} (hf : Alt true (f a).2) : ∀ (x : Bool) (s : Tree) (p j : Nat) (o : Option Nat), Alt x s → s.gaps[p]? = some a →
    lts o j (ins f s p) = (lts o j s).take (p + (!x).toNat) ++ (lts (some (f a).1.1) 0 (f a).2 ++ (lts o j s).drop (p + (!x).toNat))
  | true, gap b r, 0, j, o, h, e => by
    simp [gaps] at e
    subst e
    simp [ins, lts]
  | true, gap b r, p + 1, j, o, h, e => by
    have e : r.gaps[p]? = some a := by simpa [gaps] using e
    have := ins_lts hf false r p j o h e
    simpa [ins, lts] using this
  | true, born b i r, p, j, o, h, e => by
    have e : (i.gaps ++ r.gaps)[p]? = some a := e
    have l1 := alt_len true i h.1
    have l2 := alt_len false r h.2
    have m1 := lts_len i (some b.1) 0
    simp only [Bool.toNat_true, Bool.toNat_false, Nat.add_zero] at l1 l2
    show lts o j (if p < i.gaps.length then _ else _) = (lts (some b.1) 0 i ++ lts o j r).take (p + 0) ++ (_ ++ (lts (some b.1) 0 i ++ lts o j r).drop (p + 0))
    by_cases hp : p < i.gaps.length
    · rw [List.getElem?_append_left hp] at e
      rw [if_pos hp, List.take_append_of_le_length (by omega), List.drop_append_of_le_length (by omega)]
      have := ins_lts hf true i p 0 (some b.1) h.1 e
      simp only [Bool.not_true, Bool.toNat_false, Nat.add_zero] at this
      simp [lts, this, List.append_assoc]
    · rw [List.getElem?_append_right (by omega)] at e
      have hz : (lts (some b.1) 0 i).length ≤ p + 0 := by omega
      rw [if_neg hp, List.take_append, List.drop_append, List.take_of_length_le (l := lts (some b.1) 0 i) hz, List.drop_eq_nil_of_le (as := lts (some b.1) 0 i) hz]
      have := ins_lts hf false r _ j o h.2 e
      simp only [Bool.not_false, Bool.toNat_true] at this
      have e2 : p + 0 - (lts (some b.1) 0 i).length = p - i.gaps.length + 1 := by omega
      rw [e2]
      simp [lts, this, List.append_assoc]
  | false, nil, p, j, o, h, e => by simp [gaps] at e
  | false, lett k r, p, j, o, h, e => by
    have := ins_lts hf true r p (j + 1) o h e
    simp only [Bool.not_true, Bool.toNat_false, Nat.add_zero] at this
    simp [ins, lts, this]
  | true, nil, _, _, _, h, _ => h.elim
  | true, lett _ _, _, _, _, h, _ => h.elim
  | false, gap _ _, _, _, _, h, _ => h.elim
  | false, born _ _ _, _, _, _, h, _ => h.elim
/-- s is what the births B tell of the home o, from part j on -/
def Un (B : List Br) : Option Nat → Nat → Tree → Prop
  | _, _, nil => True
  | o, j, lett _ r => Un B o j r
  | o, j, gap a r => a.2 = (o, j) ∧ (∀ b ∈ B, b.h ≠ (o, j)) ∧ Un B o (j + 1) r
  | o, j, born b i r => b.2.h = (o, j) ∧ B[b.1]? = some b.2 ∧ b.2.w = i.letts ∧ Un B (some b.1) 0 i ∧ Un B o (j + 1) r
theorem Un.key {B : List Br} : ∀ (s : Tree) (o : Option Nat) (j : Nat), Un B o j s → ∀ a ∈ s.gaps, ∀ b ∈ B, b.h ≠ a.2
  | nil, _, _, _, a, ha => by simp [gaps] at ha
  | lett k r, o, j, h, a, ha => Un.key r o j h a ha
  | gap b r, o, j, h, a, ha => by
    rcases List.mem_cons.mp (show a ∈ b :: r.gaps from ha) with rfl | ha
    · rw [h.1]
      exact h.2.1
    · exact Un.key r o _ h.2.2 a ha
  | born b i r, o, j, h, a, ha => by
    rcases List.mem_append.mp (show a ∈ i.gaps ++ r.gaps from ha) with ha | ha
    · exact Un.key i _ _ h.2.2.2.1 a ha
    · exact Un.key r _ _ h.2.2.2.2 a ha
theorem Un.snoc {B : List Br} {x : Br} : ∀ (s : Tree) (o : Option Nat) (j : Nat), Un B o j s → (∀ a ∈ s.gaps, a.2 ≠ x.h) → Un (B ++ [x]) o j s
  | nil, _, _, _, _ => trivial
  | lett k r, o, j, h, n => Un.snoc r o j h n
  | gap b r, o, j, h, n => by
    refine ⟨h.1, fun y hy => ?_, Un.snoc r o _ h.2.2 fun a ha => n a (List.mem_cons_of_mem _ ha)⟩
    rcases List.mem_append.mp hy with hy | hy
    · exact h.2.1 y hy
    · rw [List.mem_singleton.mp hy, ← h.1]
      exact fun z => n b List.mem_cons_self z.symm
  | born b i r, o, j, h, n => by
    refine ⟨h.1, ?_, h.2.2.1, Un.snoc i _ _ h.2.2.2.1 fun a ha => n a (List.mem_append_left _ ha), Un.snoc r _ _ h.2.2.2.2 fun a ha => n a (List.mem_append_right _ ha)⟩
    rw [List.getElem?_append_left (List.getElem?_eq_some_iff.mp h.2.1).1]
    exact h.2.1
theorem Un.fresh {B : List Br} {o : Option Nat} (h : ∀ b ∈ B, b.h.1 ≠ o) : ∀ (w : List Nat) (j l r : Nat), Un B o j (fresh o j l w r)
  | [], j, l, r => ⟨rfl, fun b hb z => h b hb (by rw [z]), trivial⟩
  | k :: w, j, l, r => ⟨rfl, fun b hb z => h b hb (by rw [z]), Un.fresh h w (j + 1) k r⟩
theorem nodup_split {α : Type} {xs ys : List α} (h : (xs ++ ys).Nodup) : xs.Nodup ∧ ys.Nodup ∧ ∀ x ∈ xs, x ∉ ys := by
  rw [List.nodup_append] at h
  exact ⟨h.1, h.2.1, fun x hx hy => h.2.2 x hx x hy rfl⟩
theorem Un.ins {B : List Br} {W : Gp → Nat → List Nat} {c : Nat} {a : SlA} (hB : ∀ b ∈ B, b.h.1 ≠ some B.length) (ha : a.2.1 ≠ some B.length) : ∀ (s : Tree) (o : Option Nat) (j p : Nat), Un B o j s → (s.gaps.map (·.2)).Nodup → s.gaps[p]? = some a →
    Un (B ++ [(newB W B.length c a).1.2]) o j (Sg.ins (newB W B.length c) s p)
  | nil, _, _, _, _, _, e => by simp [gaps] at e
  | lett k r, o, j, p, h, n, e => Un.ins hB ha r o j p h n e
  | gap b r, o, j, 0, h, n, e => by
    simp [gaps] at e
    subst e
    have n2 : (b.2 :: r.gaps.map (·.2)).Nodup := n
    rw [List.nodup_cons] at n2
    refine ⟨h.1, ?_, (fresh_letts _ _ _ _ _).symm, Un.fresh (fun y hy => ?_) _ _ _ _, Un.snoc r o _ h.2.2 fun y hy z => n2.1 ?_⟩
    · show (B ++ [_])[B.length]? = _
      rw [List.getElem?_append_right (Nat.le_refl _)]
      simp
    · rcases List.mem_append.mp hy with hy | hy
      · exact hB y hy
      · rw [List.mem_singleton.mp hy]
        exact ha
    · have z : y.2 = b.2 := z
      rw [← z]
      exact List.mem_map_of_mem hy
  | gap b r, o, j, p + 1, h, n, e => by
    have e : r.gaps[p]? = some a := by simpa [gaps] using e
    have n2 : (b.2 :: r.gaps.map (·.2)).Nodup := n
    rw [List.nodup_cons] at n2
    refine ⟨h.1, fun y hy z => ?_, Un.ins hB ha r o _ p h.2.2 n2.2 e⟩
    rcases List.mem_append.mp hy with hy | hy
    · exact h.2.1 y hy z
    · rw [List.mem_singleton.mp hy, ← h.1] at z
      have z : a.2 = b.2 := z
      exact n2.1 (by rw [← z]; exact List.mem_map_of_mem (List.mem_of_getElem? e))
  | born b i r, o, j, p, h, n, e => by
    have e : (i.gaps ++ r.gaps)[p]? = some a := e
    have n : ((i.gaps ++ r.gaps).map (·.2)).Nodup := n
    rw [List.map_append] at n
    obtain ⟨n1, n2, n3⟩ := nodup_split n
    show Un _ o j (if p < i.gaps.length then _ else _)
    have gB : (B ++ [(newB W B.length c a).1.2])[b.1]? = some b.2 := by
      rw [List.getElem?_append_left (List.getElem?_eq_some_iff.mp h.2.1).1]
      exact h.2.1
    by_cases hp : p < i.gaps.length
    · rw [List.getElem?_append_left hp] at e
      rw [if_pos hp]
      refine ⟨h.1, gB, h.2.2.1.trans (letts_ins i p).symm, Un.ins hB ha i _ _ p h.2.2.2.1 n1 e, Un.snoc r _ _ h.2.2.2.2 fun y hy z => ?_⟩
      have z : y.2 = a.2 := z
      exact n3 a.2 (List.mem_map_of_mem (List.mem_of_getElem? e)) (by rw [← z]; exact List.mem_map_of_mem hy)
    · rw [List.getElem?_append_right (by omega)] at e
      rw [if_neg hp]
      refine ⟨h.1, gB, h.2.2.1, Un.snoc i _ _ h.2.2.2.1 fun y hy z => ?_, Un.ins hB ha r _ _ _ h.2.2.2.2 n2 e⟩
      have z : y.2 = a.2 := z
      exact n3 y.2 (List.mem_map_of_mem hy) (by rw [z]; exact List.mem_map_of_mem (List.mem_of_getElem? e))
end Sg
end G
namespace G
open Sg
theorem parts_app {g : Gp} : ∀ (x w : List Nat) (l r : Nat), (partsG (l, r) w)[0]? = some g → partsG (l, r) (x ++ w) = partsG (l, g.2) x ++ (partsG (l, r) w).drop 1
  | [], [], l, r, h => by
    simp [partsG_nil] at h ⊢
    rw [← h]
  | [], k :: w, l, r, h => by
    rw [partsG_cons] at h
    simp at h
    rw [List.nil_append, partsG_cons, partsG_nil, ← h]
    rfl
  | a :: x, w, l, r, h => by
    have h2 : ∃ g2, (partsG (a, r) w)[0]? = some g2 ∧ g2.2 = g.2 := by
      cases w with
      | nil =>
        simp [partsG_nil] at h ⊢
        rw [← h]
      | cons k w =>
        rw [partsG_cons] at h ⊢
        simp at h ⊢
        rw [← h]
    obtain ⟨g2, e1, e2⟩ := h2
    rw [List.cons_append, partsG_cons, partsG_cons, parts_app x w a r e1, e2]
    have e3 : (partsG (a, r) w).drop 1 = (partsG (l, r) w).drop 1 := by
      cases w with
      | nil => rfl
      | cons k w => rw [partsG_cons, partsG_cons]; rfl
    rw [e3]
    rfl
theorem parts_ins {g : Gp} {x : List Nat} : ∀ (w : List Nat) (p l r : Nat), (partsG (l, r) w)[p]? = some g → partsG (l, r) (w.take p ++ (x ++ w.drop p)) = (partsG (l, r) w).take p ++ (partsG g x ++ (partsG (l, r) w).drop (p + 1))
  | w, 0, l, r, h => by
    have e : g.1 = l := by
      cases w with
      | nil =>
        simp [partsG_nil] at h
        rw [← h]
      | cons k w =>
        rw [partsG_cons] at h
        simp at h
        rw [← h]
    have := parts_app x w l r h
    simp only [List.take_zero, List.nil_append, List.drop_zero]
    rw [this]
    obtain ⟨g1, g2⟩ := g
    cases e
    rfl
  | [], p + 1, l, r, h => by simp [partsG_nil] at h
  | k :: w, p + 1, l, r, h => by
    rw [partsG_cons] at h
    have := parts_ins (x := x) w p k r (by simpa using h)
    simp only [List.take_succ_cons, List.cons_append, List.drop_succ_cons]
    rw [partsG_cons, this, partsG_cons]
    rfl
/-- how old a letter is -/
def age (x : Lt) : Int := match x.2.1 with
  | none => -1
  | some o => o
/-- where a birth at a place comes to stand, by the letters beside it -/
def homeL (L : List Lt) (p : Nat) : Hm := match (if p = 0 then none else L[p - 1]?), L[p]? with
  | none, none => (none, 0)
  | some l, none => (l.2.1, l.2.2 + 1)
  | none, some r => (r.2.1, r.2.2)
  | some l, some r => if age l > age r then (l.2.1, l.2.2 + 1) else (r.2.1, r.2.2)
/-- the word's letters, born as n -/
def bornL (n : Nat) (w : List Nat) : List Lt := w.mapIdx fun i k => (k, some n, i)
theorem bornL_at {n : Nat} {w : List Nat} {i : Nat} : (bornL n w)[i]? = (w[i]?).map fun k => (k, some n, i) := by simp [bornL]
theorem bornL_len {n : Nat} {w : List Nat} : (bornL n w).length = w.length := by simp [bornL]
theorem age_lt {x : Lt} {n : Nat} (h : ∀ o, x.2.1 = some o → o < n) : age x < n := by
  unfold age
  cases e : x.2.1 with
  | none => simp only; omega
  | some o =>
    have := h o e
    simp only
    omega
theorem home_ins {L : List Lt} {S : List Hm} {n p : Nat} {w : List Nat} (hL : S.length = L.length + 1) (hH : ∀ q, q ≤ L.length → S[q]? = some (homeL L q)) (hn : ∀ x ∈ L, ∀ o, x.2.1 = some o → o < n) (hp : p ≤ L.length) (hw : w ≠ []) :
    ∀ q, q ≤ (L.take p ++ (bornL n w ++ L.drop p)).length → (S.take p ++ ((List.range' 0 (w.length + 1)).map (fun i => ((some n : Option Nat), i)) ++ S.drop (p + 1)))[q]? = some (homeL (L.take p ++ (bornL n w ++ L.drop p)) q) := by
  intro q hq
  have hwl : 0 < w.length := List.length_pos_iff.mpr hw
  have tl : (L.take p).length = p := by rw [List.length_take]; omega
  have ts : (S.take p).length = p := by rw [List.length_take]; omega
  have bl : (bornL n w).length = w.length := bornL_len
  have g1 : ∀ i, i < p → (L.take p ++ (bornL n w ++ L.drop p))[i]? = L[i]? := fun i hi => by
    rw [List.getElem?_append_left (by omega), List.getElem?_take_of_lt hi]
  have g2 : ∀ i, i < w.length → (L.take p ++ (bornL n w ++ L.drop p))[p + i]? = (w[i]?).map fun k => (k, some n, i) := fun i hi => by
    rw [List.getElem?_append_right (by omega), tl, List.getElem?_append_left (by omega), bornL_at]
    congr 2
    · funext k
      congr 3
      omega
    · omega
  have g3 : ∀ i, (L.take p ++ (bornL n w ++ L.drop p))[p + w.length + i]? = L[p + i]? := fun i => by
    rw [List.getElem?_append_right (by omega), tl, List.getElem?_append_right (by omega), bl, List.getElem?_drop]
    congr 1
    omega
  rw [List.length_append, List.length_append, tl, bl, List.length_drop] at hq
  by_cases c1 : q < p
  · rw [List.getElem?_append_left (by omega), List.getElem?_take_of_lt c1, hH q (by omega)]
    unfold homeL
    rw [g1 q c1]
    by_cases c0 : q = 0
    · rw [if_pos c0, if_pos c0]
    · rw [if_neg c0, if_neg c0, g1 (q - 1) (by omega)]
  · by_cases c2 : q ≤ p + w.length
    · obtain ⟨i, rfl⟩ : ∃ i, q = p + i := ⟨q - p, by omega⟩
      have hi : i ≤ w.length := by omega
      rw [List.getElem?_append_right (by omega), ts, List.getElem?_append_left (by simp; omega), List.getElem?_map, List.getElem?_range' (by omega)]
      have e0 : p + i - p = i := by omega
      simp only [Option.map_some, e0, Nat.one_mul, Nat.zero_add]
      congr 1
      unfold homeL
      by_cases ci : i = 0
      · -- the first slot: right is new
        subst ci
        have r0 : (L.take p ++ (bornL n w ++ L.drop p))[p + 0]? = some (w[0], some n, 0) := by
          rw [g2 0 hwl, List.getElem?_eq_getElem hwl]
          rfl
        rw [r0]
        by_cases c0 : p + 0 = 0
        · rw [if_pos c0]
        · rw [if_neg c0]
          have l0 : (L.take p ++ (bornL n w ++ L.drop p))[p + 0 - 1]? = L[p - 1]? := g1 (p - 1) (by omega)
          rw [l0, List.getElem?_eq_getElem (show p - 1 < L.length by omega)]
          have a1 := age_lt (hn _ (List.getElem_mem (show p - 1 < L.length by omega)))
          have a2 : age (w[0], some n, 0) = n := rfl
          simp only
          rw [if_neg (by rw [a2]; omega)]
      · have lft : (L.take p ++ (bornL n w ++ L.drop p))[p + i - 1]? = some (w[i - 1], some n, i - 1) := by
          have : p + i - 1 = p + (i - 1) := by omega
          rw [this, g2 (i - 1) (by omega), List.getElem?_eq_getElem (show i - 1 < w.length by omega)]
          rfl
        rw [if_neg (by omega), lft]
        by_cases ce : i = w.length
        · have r0 : (L.take p ++ (bornL n w ++ L.drop p))[p + i]? = L[p]? := by
            have := g3 0
            rw [ce]
            exact this
          rw [r0]
          cases hr : L[p]? with
          | none =>
            simp only
            congr 1
            omega
          | some x =>
            have a1 := age_lt (hn x (List.mem_of_getElem? hr))
            have a2 : age (w[i - 1], some n, i - 1) = n := rfl
            simp only
            rw [if_pos (by rw [a2]; omega)]
            congr 1
            omega
        · have r0 : (L.take p ++ (bornL n w ++ L.drop p))[p + i]? = some (w[i]'(by omega), some n, i) := by
            rw [g2 i (by omega), List.getElem?_eq_getElem (show i < w.length by omega)]
            rfl
          rw [r0]
          have a2 : age (w[i - 1], some n, i - 1) = n := rfl
          have a3 : age (w[i]'(by omega), some n, i) = n := rfl
          simp only
          rw [if_neg (by rw [a2, a3]; omega)]
    · obtain ⟨i, rfl⟩ : ∃ i, q = p + w.length + i := ⟨q - p - w.length, by omega⟩
      have hi : 0 < i := by omega
      rw [List.getElem?_append_right (by omega), ts, List.getElem?_append_right (by simp; omega), List.length_map, List.length_range', List.getElem?_drop]
      have e1 : p + 1 + (p + w.length + i - p - (w.length + 1)) = p + i := by omega
      rw [e1, hH (p + i) (by omega)]
      unfold homeL
      have l0 : (L.take p ++ (bornL n w ++ L.drop p))[p + w.length + i - 1]? = L[p + i - 1]? := by
        have := g3 (i - 1)
        have e2 : p + w.length + (i - 1) = p + w.length + i - 1 := by omega
        have e3 : p + (i - 1) = p + i - 1 := by omega
        rw [e2, e3] at this
        exact this
      rw [g3 i, if_neg (by omega), if_neg (by omega), l0]
/-- what the start and the births before tell of the gap at a home -/
def Lab (start : List Nat) (B : List Br) (h : Hm) (g : Gp) : Prop := match h.1 with
  | none => (partsG (60, 62) start)[h.2]? = some g
  | some o => ∃ b, B[o]? = some b ∧ (partsG b.g b.w)[h.2]? = some g
theorem Lab.snoc {start : List Nat} {B : List Br} {h : Hm} {g : Gp} {x : Br} (q : Lab start B h g) : Lab start (B ++ [x]) h g := by
  unfold Lab at q ⊢
  split
  · rename_i e
    rw [e] at q
    exact q
  · rename_i o e
    rw [e] at q
    obtain ⟨b, h1, h2⟩ := q
    exact ⟨b, by rw [List.getElem?_append_left (List.getElem?_eq_some_iff.mp h1).1]; exact h1, h2⟩
/-- the letters of all words -/
def wSum : List Br → Nat
  | [] => 0
  | b :: B => (2 * b.w.length + 1) + wSum B
theorem wSum_snoc (x : Br) : ∀ B : List Br, wSum (B ++ [x]) = wSum B + (2 * x.w.length + 1)
  | [] => by simp [wSum]
  | b :: B => by
    simp [wSum, wSum_snoc x B]
    omega
/-- the tree t of the births B over a start -/
structure TOk (W : Gp → Nat → List Nat) (start : List Nat) (s : Tree) (B : List Br) : Prop where
  alt : Alt true s
  un : Un B none 0 s
  nd : (s.gaps.map (·.2)).Nodup
  own : ∀ a ∈ s.gaps, ∀ o, a.2.1 = some o → o < B.length
  lown : ∀ x ∈ lts none 0 s, ∀ o, x.2.1 = some o → o < B.length
  bown : ∀ (n : Nat) (b : Br), B[n]? = some b → ∀ o, b.h.1 = some o → o < n
  ltr : s.letts = start
  gp : s.gaps.map (·.1) = partsG (60, 62) s.exp
  lab : ∀ a ∈ s.gaps, Lab start B a.2 a.1
  blab : ∀ b ∈ B, Lab start B b.h b.g
  bw : ∀ b ∈ B, b.w = W b.g b.c ∧ b.w ≠ []
  bnd : (B.map (·.h)).Nodup
  home : ∀ q, q ≤ (lts none 0 s).length → (s.gaps.map (·.2))[q]? = some (homeL (lts none 0 s) q)
  ids : ∀ (n : Nat) (b : Br), B[n]? = some b → ∃ i, ((n, b), i) ∈ s.subs
  one : s.tot (fun _ => 1) = B.length
  sz : s.size = 2 * start.length + 1 + wSum B
theorem fresh_lts0 : ∀ (w : List Nat) (j l r : Nat), lts none j (fresh none j l w r) = w.mapIdx fun i k => (k, none, j + i)
  | [], _, _, _ => rfl
  | k :: w, j, l, r => by
    show (k, none, j) :: lts none (j + 1) (fresh none (j + 1) k w r) = _
    rw [fresh_lts0 w, List.mapIdx_cons]
    refine congr (congrArg _ rfl) ?_
    refine List.ext_getElem? fun i => ?_
    simp only [List.getElem?_mapIdx]
    cases w[i]? <;> simp
    omega
/-- the letters of a start -/
def startL (w : List Nat) : List Lt := w.mapIdx fun i k => (k, none, i)
theorem startL_at {w : List Nat} {i : Nat} : (startL w)[i]? = (w[i]?).map fun k => (k, none, i) := by simp [startL]
theorem fresh_un (w : List Nat) (j l r : Nat) : Un [] none j (fresh none j l w r) := by
  induction w generalizing j l with
  | nil => exact ⟨rfl, fun b hb => (by simp at hb), trivial⟩
  | cons k w ih => exact ⟨rfl, fun b hb => (by simp at hb), ih (j + 1) k⟩
theorem nodup_homes (o : Option Nat) (j n : Nat) : ((List.range' j n).map fun i => (o, i)).Nodup := by
  refine List.Pairwise.map _ (fun a b q z => q ?_) List.nodup_range'
  exact (Prod.mk.inj z).2
theorem tOk_start {W : Gp → Nat → List Nat} (start : List Nat) : TOk W start (fresh none 0 60 start 62) [] := by
  have hs : lts none 0 (fresh none 0 60 start 62) = startL start := by
    rw [fresh_lts0]
    unfold startL
    simp
  have hh := fresh_home none start 0 60 62
  refine ⟨fresh_alt _ _ _ _ _, fresh_un _ _ _ _, by rw [hh]; exact nodup_homes _ _ _, fun a ha o e => ?_, fun x hx o e => ?_, fun n b e => by simp at e, fresh_letts _ _ _ _ _, by rw [fresh_gap, fresh_exp], fun a ha => ?_, fun b hb => by simp at hb, fun b hb => by simp at hb, List.nodup_nil, fun q hq => ?_, fun n b e => by simp at e, fresh_tot _ _ _ _ _, by rw [fresh_size]; rfl⟩
  · have : a.2 ∈ (fresh none 0 60 start 62).gaps.map (·.2) := List.mem_map_of_mem ha
    rw [hh] at this
    obtain ⟨i, _, e2⟩ := List.mem_map.mp this
    rw [← e2] at e
    cases e
  · rw [hs] at hx
    obtain ⟨i, hi⟩ := List.mem_iff_getElem?.mp hx
    rw [startL_at] at hi
    obtain ⟨k, _, rfl⟩ := Option.map_eq_some_iff.mp hi
    cases e
  · obtain ⟨i, hi⟩ := List.mem_iff_getElem?.mp ha
    have h1 : ((fresh none 0 60 start 62).gaps.map (·.2))[i]? = some a.2 := by rw [List.getElem?_map, hi]; rfl
    have h2 : ((fresh none 0 60 start 62).gaps.map (·.1))[i]? = some a.1 := by rw [List.getElem?_map, hi]; rfl
    rw [fresh_gap] at h2
    rw [hh, List.getElem?_map] at h1
    obtain ⟨x, hx, e⟩ := Option.map_eq_some_iff.mp h1
    have hx2 := (List.getElem?_eq_some_iff.mp hx).1
    rw [List.length_range'] at hx2
    rw [List.getElem?_range' hx2] at hx
    cases hx
    unfold Lab
    rw [← e]
    simp only [Nat.one_mul, Nat.zero_add]
    exact h2
  · rw [hs] at hq ⊢
    have hl : (startL start).length = start.length := by simp [startL]
    rw [hh, List.getElem?_map, List.getElem?_range' (by omega), Option.map_some]
    congr 1
    unfold homeL
    rw [startL_at, startL_at]
    by_cases c0 : q = 0
    · subst c0
      rw [if_pos rfl]
      cases start[0]? <;> rfl
    · rw [if_neg c0, List.getElem?_eq_getElem (show q - 1 < start.length by omega)]
      by_cases c1 : q = start.length
      · rw [List.getElem?_eq_none (show start.length ≤ q by omega)]
        simp only [Option.map_some, Option.map_none]
        congr 1
        omega
      · rw [List.getElem?_eq_getElem (show q < start.length by omega)]
        simp only [Option.map_some]
        rw [if_neg (by simp [age])]
        congr 1
        omega
theorem subs_ins {f : SlA → (Nat × Br) × Tree} {a : SlA} : ∀ (s : Tree) (p : Nat), s.gaps[p]? = some a → (∃ i, ((f a).1, i) ∈ (ins f s p).subs) ∧ ∀ b i, (b, i) ∈ s.subs → ∃ i', (b, i') ∈ (ins f s p).subs
  | nil, _, h => by simp [gaps] at h
  | lett k r, p, h => subs_ins r p h
  | gap b r, 0, h => by
    simp [gaps] at h
    subst h
    refine ⟨⟨(f b).2, List.mem_cons_self⟩, fun x i hx => ⟨i, List.mem_cons_of_mem _ (List.mem_append_right _ hx)⟩⟩
  | gap b r, p + 1, h => subs_ins r p (by simpa [gaps] using h)
  | born b i r, p, h => by
    have h : (i.gaps ++ r.gaps)[p]? = some a := h
    unfold ins
    split
    · rename_i hp
      rw [List.getElem?_append_left hp] at h
      obtain ⟨⟨j, h1⟩, h2⟩ := subs_ins i p h
      refine ⟨⟨j, List.mem_cons_of_mem _ (List.mem_append_left _ h1)⟩, fun x y hx => ?_⟩
      rcases List.mem_cons.mp (show (x, y) ∈ (b, i) :: (i.subs ++ r.subs) from hx) with e | hx
      · cases e
        exact ⟨_, List.mem_cons_self⟩
      · rcases List.mem_append.mp hx with hx | hx
        · obtain ⟨j', h3⟩ := h2 x y hx
          exact ⟨j', List.mem_cons_of_mem _ (List.mem_append_left _ h3)⟩
        · exact ⟨y, List.mem_cons_of_mem _ (List.mem_append_right _ hx)⟩
    · rename_i hp
      rw [List.getElem?_append_right (by omega)] at h
      obtain ⟨⟨j, h1⟩, h2⟩ := subs_ins r _ h
      refine ⟨⟨j, List.mem_cons_of_mem _ (List.mem_append_right _ h1)⟩, fun x y hx => ?_⟩
      rcases List.mem_cons.mp (show (x, y) ∈ (b, i) :: (i.subs ++ r.subs) from hx) with e | hx
      · cases e
        exact ⟨_, List.mem_cons_self⟩
      · rcases List.mem_append.mp hx with hx | hx
        · exact ⟨y, List.mem_cons_of_mem _ (List.mem_append_left _ hx)⟩
        · obtain ⟨j', h3⟩ := h2 x y hx
          exact ⟨j', List.mem_cons_of_mem _ (List.mem_append_right _ h3)⟩
section
variable {W : Gp → Nat → List Nat} {start : List Nat} {s : Tree} {B : List Br}
theorem TOk.glen (T : TOk W start s B) : s.gaps.length = s.exp.length + 1 := alt_len true s T.alt
theorem TOk.llen (T : TOk W start s B) : (lts none 0 s).length = s.exp.length := lts_len s none 0
theorem ins_lts0 (T : TOk W start s B) {p c : Nat} {a : SlA} (e : s.gaps[p]? = some a) : lts none 0 (ins (newB W B.length c) s p) = (lts none 0 s).take p ++ (bornL B.length (W a.1 c) ++ (lts none 0 s).drop p) := by
  have h := ins_lts (f := newB W B.length c) (a := a) (fresh_alt _ _ _ _ _) true s p 0 none T.alt e
  simp only [Bool.not_true, Bool.toNat_false, Nat.add_zero] at h
  rw [h]
  congr 2
  show lts (some B.length) 0 (fresh (some B.length) 0 a.1.1 (W a.1 c) a.1.2) = _
  rw [fresh_lts]
  unfold bornL
  simp
theorem ins_exp0 (T : TOk W start s B) {p c : Nat} {a : SlA} (e : s.gaps[p]? = some a) : (ins (newB W B.length c) s p).exp = s.exp.take p ++ (W a.1 c ++ s.exp.drop p) := by
  rw [← lts_exp _ none 0, ins_lts0 T e, ← lts_exp s none 0]
  rw [List.map_append, List.map_append, List.map_take, List.map_drop]
  congr 2
  refine List.ext_getElem? fun i => ?_
  rw [List.getElem?_map, bornL_at]
  cases (W a.1 c)[i]? <;> rfl
theorem TOk.put (T : TOk W start s B) {p c : Nat} {a : SlA} (e : s.gaps[p]? = some a) (hw : W a.1 c ≠ []) : TOk W start (ins (newB W B.length c) s p) (B ++ [⟨c, W a.1 c, a.2, a.1⟩]) := by
  have ha := List.mem_of_getElem? e
  have hp : p < s.gaps.length := (List.getElem?_eq_some_iff.mp e).1
  have hg := gaps_ins (f := newB W B.length c) s p e
  have hB : ∀ b ∈ B, b.h.1 ≠ some B.length := fun b hb z => by
    obtain ⟨n, hn⟩ := List.mem_iff_getElem?.mp hb
    have h1 := T.bown n b hn _ z
    have h2 := (List.getElem?_eq_some_iff.mp hn).1
    omega
  have haB : a.2.1 ≠ some B.length := fun z => Nat.lt_irrefl _ (T.own a ha _ z)
  have gh : (ins (newB W B.length c) s p).gaps.map (·.2) = (s.gaps.map (·.2)).take p ++ ((List.range' 0 ((W a.1 c).length + 1)).map (fun i => ((some B.length : Option Nat), i)) ++ (s.gaps.map (·.2)).drop (p + 1)) := by
    rw [hg, List.map_append, List.map_append, List.map_take, List.map_drop]
    congr 2
    exact fresh_home _ _ _ _ _
  have hlen : (B ++ [(⟨c, W a.1 c, a.2, a.1⟩ : Br)]).length = B.length + 1 := by simp
  have mg : ∀ x ∈ (ins (newB W B.length c) s p).gaps, x ∈ s.gaps ∨ x ∈ (fresh (some B.length) 0 a.1.1 (W a.1 c) a.1.2).gaps := fun x hx => by
    rw [hg] at hx
    rcases List.mem_append.mp hx with hx | hx
    · exact .inl (List.mem_of_mem_take hx)
    · rcases List.mem_append.mp hx with hx | hx
      · exact .inr hx
      · exact .inl (List.mem_of_mem_drop hx)
  have mf : ∀ x ∈ (fresh (some B.length) 0 a.1.1 (W a.1 c) a.1.2).gaps, ∃ i, x.2 = (some B.length, i) ∧ (partsG a.1 (W a.1 c))[i]? = some x.1 := fun x hx => by
    obtain ⟨i, hi⟩ := List.mem_iff_getElem?.mp hx
    have h1 : ((fresh (some B.length) 0 a.1.1 (W a.1 c) a.1.2).gaps.map (·.2))[i]? = some x.2 := by rw [List.getElem?_map, hi]; rfl
    have h2 : ((fresh (some B.length) 0 a.1.1 (W a.1 c) a.1.2).gaps.map (·.1))[i]? = some x.1 := by rw [List.getElem?_map, hi]; rfl
    rw [fresh_gap] at h2
    rw [fresh_home, List.getElem?_map] at h1
    obtain ⟨y, hy, e⟩ := Option.map_eq_some_iff.mp h1
    have hy2 := (List.getElem?_eq_some_iff.mp hy).1
    rw [List.length_range'] at hy2
    rw [List.getElem?_range' hy2] at hy
    cases hy
    exact ⟨i, by rw [← e]; simp, h2⟩
  refine ⟨alt_ins (fun a => fresh_alt _ _ _ _ _) true s p T.alt, Un.ins (c := c) hB haB s none 0 p T.un T.nd e, ?_, fun x hx o z => ?_, fun x hx o z => ?_, fun n b hn o z => ?_, (letts_ins s p).trans T.ltr, ?_, fun x hx => ?_, fun b hb => ?_, fun b hb => ?_, ?_, ?_, fun n b hn => ?_, ?_, ?_⟩
  · -- homes of slots
    rw [gh]
    have n0 := T.nd
    have hd : (s.gaps.map (·.2)) = (s.gaps.map (·.2)).take p ++ (s.gaps.map (·.2)).drop p := (List.take_append_drop _ _).symm
    have n1 : ((s.gaps.map (·.2)).take p ++ (s.gaps.map (·.2)).drop (p + 1)).Nodup := List.Nodup.sublist ((List.Sublist.append (List.Sublist.refl _) (List.drop_sublist_drop_left _ (Nat.le_succ p))).trans (by rw [List.take_append_drop]; exact List.Sublist.refl _)) n0
    rw [List.nodup_append] at n1
    have old : ∀ x ∈ s.gaps.map (·.2), ∀ y ∈ ((List.range' 0 ((W a.1 c).length + 1)).map (fun i => ((some B.length : Option Nat), i))), x ≠ y := fun x hx y hy z => by
      obtain ⟨q, hq, rfl⟩ := List.mem_map.mp hx
      obtain ⟨i, _, rfl⟩ := List.mem_map.mp hy
      exact Nat.lt_irrefl _ (T.own q hq _ (by rw [z]))
    rw [List.nodup_append]
    refine ⟨n1.1, ?_, fun x hx y hy => ?_⟩
    · rw [List.nodup_append]
      exact ⟨nodup_homes _ _ _, n1.2.1, fun x hx y hy => Ne.symm (old y (List.mem_of_mem_drop hy) x hx)⟩
    · rcases List.mem_append.mp hy with hy | hy
      · exact old x (List.mem_of_mem_take hx) y hy
      · exact n1.2.2 x hx y hy
  · rw [hlen]
    rcases mg x hx with hx | hx
    · exact Nat.lt_succ_of_lt (T.own x hx o z)
    · obtain ⟨i, e1, _⟩ := mf x hx
      rw [e1] at z
      cases z
      exact Nat.lt_succ_self _
  · rw [hlen]
    rw [ins_lts0 T e] at hx
    rcases List.mem_append.mp hx with hx | hx
    · exact Nat.lt_succ_of_lt (T.lown x (List.mem_of_mem_take hx) o z)
    · rcases List.mem_append.mp hx with hx | hx
      · obtain ⟨i, hi⟩ := List.mem_iff_getElem?.mp hx
        rw [bornL_at] at hi
        obtain ⟨k, _, rfl⟩ := Option.map_eq_some_iff.mp hi
        cases z
        exact Nat.lt_succ_self _
      · exact Nat.lt_succ_of_lt (T.lown x (List.mem_of_mem_drop hx) o z)
  · by_cases hl : n < B.length
    · rw [List.getElem?_append_left hl] at hn
      exact T.bown n b hn o z
    · have hl2 := (List.getElem?_eq_some_iff.mp hn).1
      rw [hlen] at hl2
      obtain rfl : n = B.length := by omega
      rw [List.getElem?_append_right (Nat.le_refl _)] at hn
      simp at hn
      subst hn
      exact T.own a ha o z
  · rw [hg, ins_exp0 T e, List.map_append, List.map_append]
    have e1 : (partsG (60, 62) s.exp)[p]? = some a.1 := by rw [← T.gp, List.getElem?_map, e]; rfl
    rw [parts_ins _ _ _ _ e1, ← T.gp, List.map_take, List.map_drop]
    congr 2
    exact fresh_gap _ _ _ _ _
  · rcases mg x hx with hx | hx
    · exact (T.lab x hx).snoc
    · obtain ⟨i, e1, e2⟩ := mf x hx
      unfold Lab
      rw [e1]
      refine ⟨⟨c, W a.1 c, a.2, a.1⟩, ?_, e2⟩
      rw [List.getElem?_append_right (Nat.le_refl _)]
      simp
  · rcases List.mem_append.mp hb with hb | hb
    · exact (T.blab b hb).snoc
    · rw [List.mem_singleton.mp hb]
      exact (T.lab a ha).snoc
  · rcases List.mem_append.mp hb with hb | hb
    · exact T.bw b hb
    · rw [List.mem_singleton.mp hb]
      exact ⟨rfl, hw⟩
  · rw [List.map_append, List.nodup_append]
    refine ⟨T.bnd, by simp, fun x hx y hy z => ?_⟩
    obtain ⟨b, hb, rfl⟩ := List.mem_map.mp hx
    simp at hy
    exact Un.key s none 0 T.un a ha b hb (z.trans hy)
  · rw [ins_lts0 T e, gh]
    refine home_ins ?_ T.home T.lown ?_ hw
    · rw [List.length_map, T.llen, T.glen]
    · rw [T.llen]
      have := T.glen
      omega
  · obtain ⟨s1, s2⟩ := subs_ins (f := newB W B.length c) s p e
    by_cases hl : n < B.length
    · rw [List.getElem?_append_left hl] at hn
      obtain ⟨i, hi⟩ := T.ids n b hn
      exact s2 _ i hi
    · have hl2 := (List.getElem?_eq_some_iff.mp hn).1
      rw [hlen] at hl2
      obtain rfl : n = B.length := by omega
      rw [List.getElem?_append_right (Nat.le_refl _)] at hn
      simp at hn
      subst hn
      exact s1
  · rw [tot_ins s p e, T.one, hlen]
    show B.length + 1 + (fresh _ _ _ _ _).tot _ = _
    rw [fresh_tot]
  · rw [size_ins s p e, T.sz, wSum_snoc]
    have z : (newB W B.length c a).2.size = 2 * (W a.1 c).length + 1 := fresh_size _ _ _ _ _
    rw [z]
    show _ = _ + (_ + (2 * (W a.1 c).length + 1))
    omega
/-- the tree and the births behind a step -/
def putT (W : Gp → Nat → List Nat) (st : Tree × List Br) (x : Nat × Nat) : Tree × List Br := match st.1.gaps[x.1]? with
  | none => st
  | some a => if W a.1 x.2 = [] then st else (ins (newB W st.2.length x.2) st.1 x.1, st.2 ++ [⟨x.2, W a.1 x.2, a.2, a.1⟩])
def growT (W : Gp → Nat → List Nat) (start : List Nat) (ss : List (Nat × Nat)) : Tree × List Br := ss.foldl (putT W) (fresh none 0 60 start 62, [])
theorem TOk.step {x : Nat × Nat} (T : TOk W start s B) : TOk W start (putT W (s, B) x).1 (putT W (s, B) x).2 := by
  unfold putT
  cases e : s.gaps[x.1]? with
  | none => exact T
  | some a =>
    simp only
    split
    · exact T
    · rename_i hw
      exact T.put e hw
theorem TOk.grow : ∀ (ss : List (Nat × Nat)) {s : Tree} {B : List Br}, TOk W start s B → TOk W start (ss.foldl (putT W) (s, B)).1 (ss.foldl (putT W) (s, B)).2
  | [], _, _, T => T
  | x :: ss, s, B, T => by
    rw [List.foldl_cons]
    exact TOk.grow ss T.step
theorem growT_ok (ss : List (Nat × Nat)) : TOk W start (growT W start ss).1 (growT W start ss).2 := TOk.grow ss (tOk_start start)
end
end G
namespace G
namespace Sg
abbrev Shp := Sg Gp (Gp × Nat)
/-- all births of its own taken out -/
def bare : Shp → Shp
  | nil => nil
  | lett k r => lett k (bare r)
  | gap g r => gap g (bare r)
  | born b _ r => gap b.1 (bare r)
end Sg
open Sg
end G
namespace G
open Sg
inductive It where
  | n | l (k : Nat) | b (i : Nat)
  deriving DecidableEq
def items : Tree → List It
  | .nil => []
  | .lett k r => .l k :: items r
  | .gap _ r => .n :: items r
  | .born b _ r => .b b.1 :: items r
/-- what is known of each birth in a tree -/
theorem subs_un {B : List Br} : ∀ (s : Tree) (x : Bool) (o : Option Nat) (j : Nat), Alt x s → Un B o j s → ∀ b i, (b, i) ∈ s.subs → Alt true i ∧ Un B (some b.1) 0 i ∧ B[b.1]? = some b.2 ∧ b.2.w = i.letts
  | .nil, _, _, _, _, _, b, i, h => by simp [subs] at h
  | .lett k r, false, o, j, a, u, b, i, h => subs_un r true o j a u b i h
  | .gap g r, true, o, j, a, u, b, i, h => subs_un r false o _ a u.2.2 b i h
  | .born b0 i0 r, true, o, j, a, u, b, i, h => by
    rcases List.mem_cons.mp (show (b, i) ∈ (b0, i0) :: (i0.subs ++ r.subs) from h) with e | h
    · cases e
      exact ⟨a.1, u.2.2.2.1, u.2.1, u.2.2.1⟩
    · rcases List.mem_append.mp h with h | h
      · exact subs_un i0 true _ _ a.1 u.2.2.2.1 b i h
      · exact subs_un r false _ _ a.2 u.2.2.2.2 b i h
  | .lett k r, true, _, _, a, _, _, _, _ => a.elim
  | .gap _ _, false, _, _, a, _, _, _, _ => a.elim
  | .born _ _ _, false, _, _, a, _, _, _, _ => a.elim
abbrev Sk := Nat × List (Nat × Nat) × List It
def stkS (I : Nat → List It) (cm : Nat → Nat) : Sk → Sk
  | (p, f, []) => (p, f, [])
  | (p, f, .l _ :: r) => (p + 1, f, r)
  | (p, f, .n :: r) => (p, f, r)
  | (p, f, .b i :: r) => (p, f ++ [(p, cm i)], I i ++ r)
/-- what stays true while the stack is worked on -/
structure SkOk (n L k : Nat) (st : Sk) : Prop where
  p : st.1 ≤ k
  f : st.2.1.length ≤ k
  s : st.2.2.length ≤ 1000 + k * L
  i : ∀ i, It.b i ∈ st.2.2 → i < n
theorem SkOk.step {n L k : Nat} {I : Nat → List It} {cm : Nat → Nat} {st : Sk} (h : SkOk n L k st) (hL : ∀ i, i < n → (I i).length ≤ L) (hI : ∀ i, i < n → ∀ j, It.b j ∈ I i → j < n) : SkOk n L (k + 1) (stkS I cm st) := by
  obtain ⟨p, f, s⟩ := st
  obtain ⟨h1, h2, h3, h4⟩ := h
  have e : (k + 1) * L = k * L + L := Nat.succ_mul k L
  cases s with
  | nil =>
    exact ⟨Nat.le_succ_of_le h1, Nat.le_succ_of_le h2, by show 0 ≤ _; omega, h4⟩
  | cons x r =>
    simp only [List.length_cons] at h3
    cases x with
    | n => exact ⟨Nat.le_succ_of_le h1, Nat.le_succ_of_le h2, by show r.length ≤ _; omega, fun i hi => h4 i (List.mem_cons_of_mem _ hi)⟩
    | l k => exact ⟨Nat.succ_le_succ h1, Nat.le_succ_of_le h2, by show r.length ≤ _; omega, fun i hi => h4 i (List.mem_cons_of_mem _ hi)⟩
    | b i =>
      have hi := h4 i List.mem_cons_self
      have hl := hL i hi
      refine ⟨Nat.le_succ_of_le h1, ?_, ?_, fun j hj => ?_⟩
      · show (f ++ [_]).length ≤ _
        rw [List.length_append]
        exact Nat.succ_le_succ h2
      · show (I i ++ r).length ≤ _
        rw [List.length_append]
        omega
      · rcases List.mem_append.mp hj with hj | hj
        · exact hI i hi j hj
        · exact h4 j (List.mem_cons_of_mem _ hj)
theorem putT_exp {ls : List Ln} {start : List Nat} {s : Tree} {B : List Br} (T : TOk (wQ ls) start s B) {x : Nat × Nat} (hp : x.1 ≤ s.exp.length) : (putT (wQ ls) (s, B) x).1.exp = behR ls s.exp x.1 x.2 := by
  have hg : x.1 < s.gaps.length := by rw [T.glen]; omega
  unfold putT
  simp only
  have e : s.gaps[x.1]? = some s.gaps[x.1] := List.getElem?_eq_getElem hg
  rw [e]
  have e1 : (partsG (60, 62) s.exp)[x.1]? = some s.gaps[x.1].1 := by rw [← T.gp, List.getElem?_map, e]; rfl
  rw [partsG_at, if_pos (by omega)] at e1
  have e2 := Option.some.inj e1
  have e3 : wQ ls s.gaps[x.1].1 x.2 = wordQ ls (gapQ s.exp x.1 x.2) := by
    rw [← e2]
    rfl
  simp only
  unfold behR
  split
  · rename_i hw
    rw [← e3, hw, List.nil_append, List.take_append_drop]
  · rw [← e3]
    exact ins_exp0 T e
theorem putT_or {W : Gp → Nat → List Nat} (s : Tree) (B : List Br) (x : Nat × Nat) : putT W (s, B) x = (s, B) ∨ ∃ a : SlA, s.gaps[x.1]? = some a ∧ W a.1 x.2 ≠ [] ∧ putT W (s, B) x = (ins (newB W B.length x.2) s x.1, B ++ [⟨x.2, W a.1 x.2, a.2, a.1⟩]) := by
  unfold putT
  simp only
  cases e : s.gaps[x.1]? with
  | none => exact .inl rfl
  | some a =>
    by_cases h : W a.1 x.2 = []
    · exact .inl (by simp [h])
    · exact .inr ⟨a, rfl, h, by simp [h]⟩
/-- the stretch of a birth in a tree -/
def subT (s : Tree) (n : Nat) : Tree := match s.subs.find? fun x => decide (x.1.1 = n) with
  | some x => x.2
  | none => .nil
theorem subT_at {s : Tree} (nd : (s.subs.map (·.1.1)).Nodup) {b : Nat × Br} {i : Tree} (h : (b, i) ∈ s.subs) : subT s b.1 = i := by
  unfold subT
  have key : ∀ l : List ((Nat × Br) × Tree), (l.map (·.1.1)).Nodup → (b, i) ∈ l → l.find? (fun x => decide (x.1.1 = b.1)) = some (b, i) := fun l => by
    induction l with
    | nil => exact fun _ h => by simp at h
    | cons x l ih =>
      intro n h
      rw [List.map_cons, List.nodup_cons] at n
      rcases List.mem_cons.mp h with e | h
      · rw [← e, List.find?_cons_of_pos (by simp)]
      · rw [List.find?_cons_of_neg, ih n.2 h]
        simp only [decide_eq_true_eq]
        intro z
        exact n.1 (by rw [z]; exact List.mem_map.mpr ⟨(b, i), h, rfl⟩)
  rw [key _ nd h]
end G
namespace G
open Sg
theorem idx_atU {x : Nat} {l : List Nat} (h : x ∈ l) : l[l.idxOf x]? = some x := by
  rw [List.getElem?_eq_getElem (List.idxOf_lt_length_iff.mpr h), List.getElem_idxOf]
/-- owners that answer to each other; f: the old number of each new birth -/
def RelO (f : List Nat) : Option Nat → Option Nat → Prop
  | none, none => True
  | some p2, some p1 => f[p2]? = some p1
  | _, _ => False
structure Iso (B1 B2 : List Br) (f : List Nat) : Prop where
  len : f.length = B2.length
  nd : f.Nodup
  at_ : ∀ (i : Nat) b2, B2[i]? = some b2 → ∃ (k : Nat) (b1 : Br), f[i]? = some k ∧ B1[k]? = some b1 ∧ b2.c = b1.c ∧ b2.w = b1.w ∧ b2.g = b1.g ∧ b2.h.2 = b1.h.2 ∧ RelO f b2.h.1 b1.h.1
section
variable {W : Gp → Nat → List Nat} {start : List Nat} {s1 s2 : Tree} {B1 B2 : List Br} {f : List Nat}
theorem RelO.inj1 {x a b : Option Nat} (h : RelO f x a) (h' : RelO f x b) : a = b := by
  cases x with
  | none =>
    cases a <;> cases b <;> first | rfl | exact h.elim | exact h'.elim
  | some p =>
    cases a with
    | none => exact h.elim
    | some a =>
      cases b with
      | none => exact h'.elim
      | some b =>
        have h : f[p]? = some a := h
        have h' : f[p]? = some b := h'
        rw [h] at h'
        exact h'
theorem RelO.inj2 (nd : f.Nodup) {x y a : Option Nat} (h : RelO f x a) (h' : RelO f y a) : x = y := by
  cases a with
  | none =>
    cases x <;> cases y <;> first | rfl | exact h.elim | exact h'.elim
  | some p =>
    cases x with
    | none => exact h.elim
    | some a =>
      cases y with
      | none => exact h'.elim
      | some b =>
        have h : f[a]? = some p := h
        have h' : f[b]? = some p := h'
        congr 1
        have la := (List.getElem?_eq_some_iff.mp h).1
        exact (List.getElem?_inj la nd).mp (by rw [h, h'])
theorem home_at {B : List Br} (nd : (B.map (·.h)).Nodup) {i j : Nat} {a b : Br} (hi : B[i]? = some a) (hj : B[j]? = some b) (e : a.h = b.h) : i = j := by
  have li := (List.getElem?_eq_some_iff.mp hi).1
  refine (List.getElem?_inj (l := B.map (·.h)) (by simpa using li) nd).mp ?_
  rw [List.getElem?_map, List.getElem?_map, hi, hj]
  simp [e]
/-- a home: a part of the start or of a birth's word -/
def HmOk (start : List Nat) (B : List Br) (h : Hm) : Prop := match h.1 with
  | none => h.2 ≤ start.length
  | some n => ∃ b, B[n]? = some b ∧ h.2 ≤ b.w.length
theorem Lab.hm {B : List Br} {h : Hm} {g : Gp} (q : Lab start B h g) : HmOk start B h := by
  unfold Lab at q
  unfold HmOk
  cases e : h.1 with
  | none =>
    rw [e] at q
    simp only at q ⊢
    have := (List.getElem?_eq_some_iff.mp q).1
    rw [partsG_len] at this
    omega
  | some n =>
    rw [e] at q
    simp only at q ⊢
    obtain ⟨b, h1, h2⟩ := q
    have := (List.getElem?_eq_some_iff.mp h2).1
    rw [partsG_len] at this
    exact ⟨b, h1, by omega⟩
/-- each part of an own stretch is a slot or has a birth -/
theorem un_slot {B : List Br} : ∀ (x : Bool) (s : Tree) (o : Option Nat) (j q : Nat), Alt x s → Un B o j s → j ≤ q → q < j + s.letts.length + x.toNat → (o, q) ∈ s.gaps.map (·.2) ∨ ∃ b ∈ B, b.h = (o, q)
  | false, nil, o, j, q, _, _, h1, h2 => by simp [letts] at h2; omega
  | false, lett k r, o, j, q, a, u, h1, h2 => by
    refine un_slot true r o j q a u h1 ?_
    simp [letts] at h2 ⊢
    omega
  | true, gap a r, o, j, q, al, u, h1, h2 => by
    by_cases e : q = j
    · subst e
      exact .inl (by show _ ∈ (a :: r.gaps).map (·.2); rw [List.map_cons, u.1]; exact List.mem_cons_self)
    · rcases un_slot false r o (j + 1) q al u.2.2 (by omega) (by simp [letts] at h2 ⊢; omega) with h | h
      · exact .inl (by show _ ∈ (a :: r.gaps).map (·.2); rw [List.map_cons]; exact List.mem_cons_of_mem _ h)
      · exact .inr h
  | true, born b i r, o, j, q, al, u, h1, h2 => by
    by_cases e : q = j
    · subst e
      exact .inr ⟨b.2, List.mem_of_getElem? u.2.1, u.1⟩
    · rcases un_slot false r o (j + 1) q al.2 u.2.2.2.2 (by omega) (by simp [letts] at h2 ⊢; omega) with h | h
      · exact .inl (by show _ ∈ (i.gaps ++ r.gaps).map (·.2); rw [List.map_append]; exact List.mem_append_right _ h)
      · exact .inr h
theorem subs_gaps : ∀ (s : Tree) (b : Nat × Br) (i : Tree), (b, i) ∈ s.subs → ∀ a ∈ i.gaps, a ∈ s.gaps
  | nil, b, i, h, _, _ => by simp [subs] at h
  | lett k r, b, i, h, a, ha => subs_gaps r b i h a ha
  | gap g r, b, i, h, a, ha => List.mem_cons_of_mem _ (subs_gaps r b i h a ha)
  | born b' i' r, b, i, h, a, ha => by
    rcases List.mem_cons.mp (show (b, i) ∈ (b', i') :: (i'.subs ++ r.subs) from h) with e | h
    · cases e
      exact List.mem_append_left _ ha
    · rcases List.mem_append.mp h with h | h
      · exact List.mem_append_left _ (subs_gaps i' b i h a ha)
      · exact List.mem_append_right _ (subs_gaps r b i h a ha)
/-- a home without a birth is a slot -/
theorem TOk.slot {s : Tree} {B : List Br} (T : TOk W start s B) {h : Hm} (hk : HmOk start B h) (hn : ∀ b ∈ B, b.h ≠ h) : ∃ (p : Nat) (a : SlA), s.gaps[p]? = some a ∧ a.2 = h := by
  have key : h ∈ s.gaps.map (·.2) := by
    obtain ⟨o, q⟩ := h
    cases o with
    | none =>
      have hq : q ≤ start.length := hk
      rcases un_slot true s none 0 q T.alt T.un (by omega) (by rw [T.ltr]; simp; omega) with h | ⟨b, hb, e⟩
      · exact h
      · exact absurd e (hn b hb)
    | some n =>
      obtain ⟨b, hb, hq⟩ : ∃ b, B[n]? = some b ∧ q ≤ b.w.length := hk
      obtain ⟨i, hi⟩ := T.ids n b hb
      obtain ⟨a1, a2, a3, a4⟩ := subs_un s true none 0 T.alt T.un (n, b) i hi
      have a4 : b.w = i.letts := a4
      rcases un_slot true i (some n) 0 q a1 a2 (by omega) (by rw [← a4]; simp; omega) with h | ⟨b, hb, e⟩
      · obtain ⟨a, ha, e⟩ := List.mem_map.mp h
        exact List.mem_map.mpr ⟨a, subs_gaps s _ _ hi a ha, e⟩
      · exact absurd e (hn b hb)
  obtain ⟨a, ha, e⟩ := List.mem_map.mp key
  obtain ⟨p, hp⟩ := List.getElem?_of_mem ha
  exact ⟨p, a, hp, e⟩
theorem lab_eq (I : Iso B1 B2 f) {o1 o2 : Option Nat} {j : Nat} {g1 g2 : Gp} (R : RelO f o2 o1) (q1 : Lab start B1 (o1, j) g1) (q2 : Lab start B2 (o2, j) g2) : g1 = g2 := by
  unfold Lab at q1 q2
  cases o1 with
  | none =>
    cases o2 with
    | none =>
      simp only at q1 q2
      rw [q1] at q2
      exact Option.some.inj q2
    | some _ => exact R.elim
  | some n1 =>
    cases o2 with
    | none => exact R.elim
    | some n2 =>
      simp only at q1 q2
      obtain ⟨b1, h1, g1'⟩ := q1
      obtain ⟨b2, h2, g2'⟩ := q2
      obtain ⟨k, b1', hk, hb, _, hw, hg, _, _⟩ := I.at_ n2 b2 h2
      have R : f[n2]? = some n1 := R
      rw [R] at hk
      cases hk
      rw [h1] at hb
      cases hb
      rw [hg, hw, g1'] at g2'
      exact Option.some.inj g2'
theorem RelO.mono {x y : Option Nat} {k : Nat} (h : RelO f x y) : RelO (f ++ [k]) x y := by
  cases x with
  | none => cases y <;> exact h
  | some a =>
    cases y with
    | none => exact h
    | some b =>
      have h : f[a]? = some b := h
      show (f ++ [k])[a]? = some b
      rw [List.getElem?_append_left (List.getElem?_eq_some_iff.mp h).1]
      exact h
/-- where the next birth of the old tree comes to be in the new one -/
def homeN (f : List Nat) (b : Br) : Hm := (b.h.1.map f.idxOf, b.h.2)
theorem rel_homeN {b : Br} (hp : ∀ o, b.h.1 = some o → o ∈ f) : RelO f (homeN f b).1 b.h.1 := by
  unfold homeN
  cases e : b.h.1 with
  | none => exact trivial
  | some o =>
    show f[f.idxOf o]? = some o
    exact idx_atU (hp o e)
theorem iso_free (T1 : TOk W start s1 B1) (I : Iso B1 B2 f) {k : Nat} {b : Br} (hb : B1[k]? = some b) (hn : k ∉ f) (hp : ∀ o, b.h.1 = some o → o ∈ f) : ∀ b2 ∈ B2, b2.h ≠ homeN f b := fun b2 h2 e => by
  obtain ⟨i, hi⟩ := List.getElem?_of_mem h2
  obtain ⟨k', b1, hk, hb1, _, _, _, hh, hR⟩ := I.at_ i b2 hi
  rw [e] at hR hh
  have e1 : b1.h.1 = b.h.1 := RelO.inj1 hR (rel_homeN hp)
  have e2 := home_at T1.bnd hb1 hb (Prod.ext e1 hh.symm)
  rw [← e2] at hn
  exact hn (List.mem_of_getElem? hk)
theorem iso_hm (T1 : TOk W start s1 B1) (I : Iso B1 B2 f) {k : Nat} {b : Br} (hb : B1[k]? = some b) (hp : ∀ o, b.h.1 = some o → o ∈ f) : HmOk start B2 (homeN f b) := by
  have h := (T1.blab b (List.mem_of_getElem? hb)).hm
  unfold HmOk at h ⊢
  unfold homeN
  cases e : b.h.1 with
  | none =>
    rw [e] at h
    exact h
  | some n =>
    rw [e] at h
    obtain ⟨b0, h0, hq⟩ := h
    have hi : f[f.idxOf n]? = some n := idx_atU (hp n e)
    have li := (List.getElem?_eq_some_iff.mp hi).1
    obtain ⟨b2, hb2⟩ : ∃ b2, B2[f.idxOf n]? = some b2 := ⟨B2[f.idxOf n]'(by rw [← I.len]; exact li), List.getElem?_eq_getElem _⟩
    obtain ⟨k', b1, hk, hb1, _, hw, _, _, _⟩ := I.at_ _ b2 hb2
    rw [hi] at hk
    cases hk
    rw [h0] at hb1
    cases hb1
    exact ⟨b2, hb2, by rw [hw]; exact hq⟩
/-- it is put in there, and all stays as before -/
theorem iso_step (T1 : TOk W start s1 B1) (T2 : TOk W start s2 B2) (I : Iso B1 B2 f) {k : Nat} {b : Br} (hb : B1[k]? = some b) (hn : k ∉ f) (hp : ∀ o, b.h.1 = some o → o ∈ f) {p : Nat} {a : SlA} (ha : s2.gaps[p]? = some a) (hh : a.2 = homeN f b) :
    W a.1 b.c = b.w ∧ b.w ≠ [] ∧ putT W (s2, B2) (p, b.c) = (ins (newB W B2.length b.c) s2 p, B2 ++ [⟨b.c, b.w, homeN f b, b.g⟩]) ∧ Iso B1 (B2 ++ [⟨b.c, b.w, homeN f b, b.g⟩]) (f ++ [k]) := by
  have hm := List.mem_of_getElem? hb
  have l2 := T2.lab a (List.mem_of_getElem? ha)
  rw [hh] at l2
  have l1 := T1.blab b hm
  have eg : b.g = a.1 := lab_eq (o1 := b.h.1) (o2 := (homeN f b).1) (j := b.h.2) I (rel_homeN hp) l1 l2
  obtain ⟨bw, bn⟩ := T1.bw b hm
  have ew : W a.1 b.c = b.w := by rw [← eg]; exact bw.symm
  refine ⟨ew, bn, ?_, ?_⟩
  · have e : s2.gaps[(p, b.c).1]? = some a := ha
    unfold putT
    simp only [e]
    rw [if_neg (by rw [ew]; exact bn), ew, hh, eg]
  · refine ⟨by simp [I.len], ?_, fun i b2 hi => ?_⟩
    · rw [List.nodup_append]
      refine ⟨I.nd, by simp, fun x hx y hy => ?_⟩
      simp at hy
      subst hy
      exact fun e => hn (e ▸ hx)
    · by_cases hlt : i < B2.length
      · rw [List.getElem?_append_left hlt] at hi
        obtain ⟨k', b1, hk, hb1, q1, q2, q3, q4, q5⟩ := I.at_ i b2 hi
        exact ⟨k', b1, by rw [List.getElem?_append_left (by rw [I.len]; exact hlt)]; exact hk, hb1, q1, q2, q3, q4, q5.mono⟩
      · have hl := (List.getElem?_eq_some_iff.mp hi).1
        simp at hl
        have e : i = B2.length := by omega
        subst e
        rw [List.getElem?_append_right (Nat.le_refl _)] at hi
        simp at hi
        subst hi
        exact ⟨k, b, by rw [← I.len, List.getElem?_append_right (Nat.le_refl _)]; simp, hb, rfl, rfl, rfl, rfl, (rel_homeN hp).mono⟩
theorem iso_nil : Iso B1 [] [] := ⟨rfl, List.nodup_nil, fun i b h => by simp at h⟩
end
end G
namespace G
open Sg
/-- the letter in the tree of the births f -/
def rnF (f : List Nat) (x : Lt) : Option Lt := match x.2.1 with
  | none => some x
  | some k => if k ∈ f then some (x.1, some (f.idxOf k), x.2.2) else none
/-- with each birth its parent -/
def ClsF (B : List Br) (f : List Nat) : Prop := ∀ (k : Nat) b, B[k]? = some b → k ∈ f → ∀ o, b.h.1 = some o → o ∈ f
section
variable {start : List Nat} {B1 B2 : List Br} {f : List Nat}
theorem idxOf_at {f : List Nat} (nd : f.Nodup) {p k : Nat} (h : f[p]? = some k) : f.idxOf k = p := by
  have hm := List.mem_of_getElem? h
  have lp := (List.getElem?_eq_some_iff.mp h).1
  exact ((List.getElem?_inj lp nd).mp (by rw [h, idx_atU hm])).symm
theorem rnF_own (nd : f.Nodup) {c j : Nat} {o1 o2 : Option Nat} (R : RelO f o2 o1) : rnF f (c, o1, j) = some (c, o2, j) := by
  cases o1 with
  | none => cases o2 with
    | none => rfl
    | some _ => exact R.elim
  | some k => cases o2 with
    | none => exact R.elim
    | some p =>
      have R : f[p]? = some k := R
      show (if k ∈ f then some (c, some (f.idxOf k), j) else none) = _
      rw [if_pos (List.mem_of_getElem? R), idxOf_at nd R]
theorem lts_out {B : List Br} (cl : ClsF B f) : ∀ (s : Tree) (n j j' : Nat), n ∉ f → Un B (some n) j s → ∀ x ∈ lts (some n) j' s, ∃ k, x.2.1 = some k ∧ k ∉ f
  | nil, n, j, j', hn, u, x, hx => by simp [lts] at hx
  | lett k r, n, j, j', hn, u, x, hx => by
    rcases List.mem_cons.mp (show x ∈ (k, some n, j') :: lts (some n) (j' + 1) r from hx) with rfl | h
    · exact ⟨n, rfl, hn⟩
    · exact lts_out cl r n j (j' + 1) hn u x h
  | gap a r, n, j, j', hn, u, x, hx => lts_out cl r n (j + 1) j' hn u.2.2 x hx
  | born b i r, n, j, j', hn, u, x, hx => by
    rcases List.mem_append.mp (show x ∈ lts (some b.1) 0 i ++ lts (some n) j' r from hx) with h | h
    · have hb : b.1 ∉ f := fun hb => hn (cl b.1 b.2 u.2.1 hb n (by rw [u.1]))
      exact lts_out cl i b.1 0 0 hb u.2.2.2.1 x h
    · exact lts_out cl r n (j + 1) j' hn u.2.2.2.2 x h
theorem lts_gone {B : List Br} (cl : ClsF B f) {s : Tree} {n j j' : Nat} (hn : n ∉ f) (u : Un B (some n) j s) : (lts (some n) j' s).filterMap (rnF f) = [] := by
  rw [List.filterMap_eq_nil_iff]
  intro x hx
  obtain ⟨k, e, hk⟩ := lts_out cl s n j j' hn u x hx
  unfold rnF
  rw [e]
  exact if_neg hk
theorem iso_lts (I : Iso B1 B2 f) (cl : ClsF B1 f) (nd1 : (B1.map (·.h)).Nodup) : ∀ (x : Bool) (s1 s2 : Tree) (o1 o2 : Option Nat) (j : Nat), RelO f o2 o1 → Alt x s1 → Alt x s2 → Un B1 o1 (j + (!x).toNat) s1 → Un B2 o2 (j + (!x).toNat) s2 → s1.letts = s2.letts →
    lts o2 j s2 = (lts o1 j s1).filterMap (rnF f)
  | false, nil, nil, _, _, _, _, _, _, _, _, _ => rfl
  | false, nil, lett _ _, _, _, _, _, _, _, _, _, h => by simp [letts] at h
  | false, lett _ _, nil, _, _, _, _, _, _, _, _, h => by simp [letts] at h
  | false, lett k r, lett k' r', o1, o2, j, R, a1, a2, u1, u2, h => by
    simp only [letts, List.cons.injEq] at h
    have := iso_lts I cl nd1 true r r' o1 o2 (j + 1) R a1 a2 u1 u2 h.2
    show (k', o2, j) :: lts o2 (j + 1) r' = ((k, o1, j) :: lts o1 (j + 1) r).filterMap (rnF f)
    rw [List.filterMap_cons, rnF_own I.nd R, h.1, this]
  | true, gap a r, gap a' r', o1, o2, j, R, a1, a2, u1, u2, h => iso_lts I cl nd1 false r r' o1 o2 j R a1 a2 u1.2.2 u2.2.2 h
  | true, gap a r, born b i r', o1, o2, j, R, a1, a2, u1, u2, h => by
    exfalso
    obtain ⟨h1, h2, _⟩ := u2
    obtain ⟨k, b1, hk, hb, _, _, _, hh, hR⟩ := I.at_ b.1 b.2 h2
    have e1 : b1.h.1 = o1 := by
      rw [h1] at hR
      exact RelO.inj1 hR R
    have e2 : b1.h.2 = j := by rw [← hh, h1]; rfl
    exact u1.2.1 b1 (List.mem_of_getElem? hb) (Prod.ext e1 e2)
  | true, born b i r, gap a r', o1, o2, j, R, a1, a2, u1, u2, h => by
    obtain ⟨h1, h2, _, h4, h5⟩ := u1
    have hn : b.1 ∉ f := fun hf => by
      obtain ⟨p, hp⟩ := List.getElem?_of_mem hf
      have lp := (List.getElem?_eq_some_iff.mp hp).1
      obtain ⟨b2, hb2⟩ : ∃ b2, B2[p]? = some b2 := ⟨B2[p]'(by rw [← I.len]; exact lp), List.getElem?_eq_getElem _⟩
      obtain ⟨k, b1, hk, hb, _, _, _, hh, hR⟩ := I.at_ p b2 hb2
      rw [hp] at hk
      cases hk
      rw [h2] at hb
      cases hb
      have e1 : b2.h.1 = o2 := by
        rw [h1] at hR
        exact RelO.inj2 I.nd hR R
      have e2 : b2.h.2 = j := by rw [hh, h1]; rfl
      exact u2.2.1 _ (List.mem_of_getElem? hb2) (Prod.ext e1 e2)
    have er := iso_lts I cl nd1 false r r' o1 o2 j R a1.2 a2 h5 u2.2.2 h
    show lts o2 j r' = (lts (some b.1) 0 i ++ lts o1 j r).filterMap (rnF f)
    rw [List.filterMap_append, lts_gone cl hn h4, er]
    rfl
  | true, born b i r, born b' i' r', o1, o2, j, R, a1, a2, u1, u2, h => by
    obtain ⟨h1, h2, h3, h4, h5⟩ := u1
    obtain ⟨g1, g2, g3, g4, g5⟩ := u2
    obtain ⟨k, b1, hk, hb, hc, hw, hg, hh, hR⟩ := I.at_ b'.1 b'.2 g2
    have e1 : b1.h = b.2.h := by
      rw [g1] at hR hh
      rw [h1]
      exact Prod.ext (RelO.inj1 hR R) hh.symm
    have ek := home_at nd1 hb h2 e1
    subst ek
    rw [h2] at hb
    cases hb
    have R' : RelO f (some b'.1) (some b.1) := hk
    have ei := iso_lts I cl nd1 true i i' (some b.1) (some b'.1) 0 R' a1.1 a2.1 h4 g4 (by rw [← h3, ← g3, hw])
    have er := iso_lts I cl nd1 false r r' o1 o2 j R a1.2 a2.2 h5 g5 h
    show lts (some b'.1) 0 i' ++ lts o2 j r' = (lts (some b.1) 0 i ++ lts o1 j r).filterMap (rnF f)
    rw [List.filterMap_append, ei, er]
end
end G
namespace G
open Sg
section
variable {W : Gp → Nat → List Nat} {start : List Nat} {s1 s2 : Tree} {B1 B2 : List Br} {f : List Nat}
/-- an order in which each birth is behind its parent -/
structure OrdF (B : List Br) (f : List Nat) : Prop where
  nd : f.Nodup
  lt : ∀ k ∈ f, k < B.length
  par : ∀ g k h, f = g ++ k :: h → ∀ b, B[k]? = some b → ∀ o, b.h.1 = some o → o ∈ g
theorem OrdF.pre {B : List Br} {g h : List Nat} (O : OrdF B (g ++ h)) : OrdF B g :=
  ⟨(List.nodup_append.mp O.nd).1, fun k hk => O.lt k (List.mem_append_left _ hk), fun g' k h' e => O.par g' k (h' ++ h) (by rw [e]; simp)⟩
theorem OrdF.cls {B : List Br} (O : OrdF B f) : ClsF B f := fun k b hb hk o ho => by
  obtain ⟨g, h, e⟩ := List.append_of_mem hk
  have := O.par g k h e b hb o ho
  rw [e]
  exact List.mem_append_left _ this
/-- births in such an order can be played -/
theorem iso_build (T1 : TOk W start s1 B1) : ∀ g : List Nat, OrdF B1 g → ∃ ss2 : List (Nat × Nat), Iso B1 (growT W start ss2).2 g ∧ ∀ x ∈ ss2, ∃ b ∈ B1, x.2 = b.c := fun g => by
  induction hm : g.length generalizing g with
  | zero =>
    intro _
    have := List.eq_nil_of_length_eq_zero hm
    subst this
    exact ⟨[], iso_nil, fun x hx => by cases hx⟩
  | succ m ih =>
    intro O
    have hne : g ≠ [] := fun e => by rw [e] at hm; cases hm
    obtain ⟨g', k, rfl⟩ : ∃ g' k, g = g' ++ [k] := ⟨g.dropLast, g.getLast hne, (List.dropLast_concat_getLast hne).symm⟩
    obtain ⟨ss2, I, hc⟩ := ih g' (by simpa using hm) O.pre
    have hk : k < B1.length := O.lt k (by simp)
    obtain ⟨b, hb⟩ : ∃ b, B1[k]? = some b := ⟨_, List.getElem?_eq_getElem hk⟩
    have hn : k ∉ g' := fun h => by
      have := (List.nodup_append.mp O.nd).2.2 k h k (by simp)
      exact this rfl
    have hp := O.par g' k [] rfl b hb
    have T2 := growT_ok (W := W) (start := start) ss2
    obtain ⟨p, a, hpa, ha⟩ := T2.slot (iso_hm T1 I hb hp) (iso_free T1 I hb hn hp)
    obtain ⟨_, _, e, I'⟩ := iso_step T1 T2 I hb hn hp hpa ha
    refine ⟨ss2 ++ [(p, b.c)], ?_, fun x hx => ?_⟩
    · have q : growT W start (ss2 ++ [(p, b.c)]) = putT W ((growT W start ss2).1, (growT W start ss2).2) (p, b.c) := by
        unfold growT
        rw [List.foldl_append]
        rfl
      rw [q, e]
      exact I'
    · rcases List.mem_append.mp hx with h | h
      · exact hc x h
      · rw [List.mem_singleton.mp h]
        exact ⟨b, List.mem_of_getElem? hb, rfl⟩
/-- the birth in the tree of the births f -/
def rnB (f : List Nat) (b : Br) : Br := ⟨b.c, b.w, homeN f b, b.g⟩
theorem iso_births (I : Iso B1 B2 f) : B2.map some = f.map fun k => (B1[k]?).map (rnB f) := by
  refine List.ext_getElem? fun i => ?_
  rw [List.getElem?_map, List.getElem?_map]
  cases e : B2[i]? with
  | none =>
    have : f[i]? = none := by
      rw [List.getElem?_eq_none_iff] at e ⊢
      rw [I.len]
      exact e
    rw [this]
    rfl
  | some b2 =>
    obtain ⟨k, b1, hk, hb, h1, h2, h3, h4, R⟩ := I.at_ i b2 e
    rw [hk]
    show some (some b2) = some ((B1[k]?).map (rnB f))
    rw [hb]
    show some (some b2) = some (some (rnB f b1))
    have e1 : b2.h.1 = (homeN f b1).1 := by
      unfold homeN
      cases q : b1.h.1 with
      | none => rw [q] at R; cases q2 : b2.h.1 with
        | none => rfl
        | some _ => rw [q2] at R; exact R.elim
      | some o => rw [q] at R; cases q2 : b2.h.1 with
        | none => rw [q2] at R; exact R.elim
        | some p =>
          rw [q2] at R
          have R : f[p]? = some o := R
          show some p = some (f.idxOf o)
          rw [idxOf_at I.nd R]
    congr 2
    obtain ⟨c2, w2, ⟨o2, j2⟩, g2⟩ := b2
    simp only [rnB]
    simp only at h1 h2 h3 h4 e1
    rw [h1, h2, h3, e1, h4]
    rfl
/-- all but the n-th -/
def allBut (n m : Nat) : List Nat := List.range n ++ List.range' (n + 1) (m - n - 1)
theorem mem_allBut {n m k : Nat} (hn : n < m) : k ∈ allBut n m ↔ k < m ∧ k ≠ n := by
  unfold allBut
  rw [List.mem_append, List.mem_range, List.mem_range'_1]
  omega
theorem allBut_sorted {n m : Nat} : (allBut n m).Pairwise (· < ·) := by
  unfold allBut
  rw [List.pairwise_append]
  refine ⟨List.pairwise_lt_range, List.pairwise_lt_range', fun a ha b hb => ?_⟩
  rw [List.mem_range] at ha
  rw [List.mem_range'_1] at hb
  omega
theorem allBut_ord (T1 : TOk W start s1 B1) {n : Nat} (hn : n < B1.length) (hl : ∀ b ∈ B1, b.h.1 ≠ some n) : OrdF B1 (allBut n B1.length) := by
  refine ⟨allBut_sorted.imp (fun h => Nat.ne_of_lt h), fun k hk => ((mem_allBut hn).mp hk).1, fun g k h e b hb o ho => ?_⟩
  have lo := T1.bown k b hb o ho
  have lk := (List.getElem?_eq_some_iff.mp hb).1
  have hm : o ∈ allBut n B1.length := (mem_allBut hn).mpr ⟨by omega, fun z => hl b (List.mem_of_getElem? hb) (by rw [ho, z])⟩
  rw [e] at hm
  have hs := allBut_sorted (n := n) (m := B1.length)
  rw [e, List.pairwise_append] at hs
  rcases List.mem_append.mp hm with h' | h'
  · exact h'
  · rcases List.mem_cons.mp h' with rfl | h'
    · omega
    · have := (List.pairwise_cons.mp hs.2.1).1 o h'
      omega
theorem allBut_idx {n m k : Nat} (hn : n < m) (hk : k < m) (hne : k ≠ n) : (allBut n m).idxOf k = if n < k then k - 1 else k := by
  refine idxOf_at (allBut_sorted.imp (fun h => Nat.ne_of_lt h)) ?_
  unfold allBut
  split
  · rw [List.getElem?_append_right (by simp; omega)]
    simp
    rw [List.getElem?_eq_some_iff]
    refine ⟨by simp; omega, ?_⟩
    simp
    omega
  · rw [List.getElem?_append_left (by simp; omega)]
    rw [List.getElem?_eq_some_iff]
    refine ⟨by simp; omega, by simp⟩
/-- a birth without children taken out -/
theorem take_ex (T1 : TOk W start s1 B1) {n : Nat} (hn : n < B1.length) (hl : ∀ b ∈ B1, b.h.1 ≠ some n) : ∃ ss2 : List (Nat × Nat), Iso B1 (growT W start ss2).2 (allBut n B1.length) ∧ (∀ x ∈ ss2, ∃ b ∈ B1, x.2 = b.c) ∧ lts none 0 (growT W start ss2).1 = (lts none 0 s1).filterMap (rnF (allBut n B1.length)) := by
  have O := allBut_ord T1 hn hl
  obtain ⟨ss2, I, hc⟩ := iso_build T1 _ O
  have T2 := growT_ok (W := W) (start := start) ss2
  exact ⟨ss2, I, hc, iso_lts I O.cls T1.bnd true _ _ none none 0 trivial T1.alt T2.alt T1.un T2.un (by rw [T1.ltr, T2.ltr])⟩
end
end G
namespace G
open PySem PySem.Spec PyProof.Rows L2 TL
def dinK (neg : Bool) (s : List Nat) (o : Option MO) (M : Mem) : Res VD := match o with
  | some (.dck kvs) => .ok (.d (.bl ((valA kvs (.s s)).isSome != neg))) M
  | _ => .fail
@[simp] theorem f_din_a {neg s} {j : Nat} {M : Mem} : f_din neg (.d (.str s)) (.adr j) M = dinK neg s (M[j]?) M := by
  unfold f_din dinK dctOf
  dsimp only
  cases M[j]? with
  | none => rfl
  | some m => cases m <;> rfl
@[simp] theorem dinK_ok {neg s kvs M} : dinK neg s (some (.dck kvs)) M = .ok (.d (.bl ((valA kvs (.s s)).isSome != neg))) M := rfl
def dputK (r : Res VD) (o i : Mx VD) (ρ : Env) : Out := r.out fun v M1 => (o ρ M1).out fun x M2 => (i ρ M2).out fun y M3 => (f_dput v x y M3).out fun _ M4 => .nx ρ M4
def dputK1 (v : VD) (r : Res VD) (i : Mx VD) (ρ : Env) : Out := r.out fun x M2 => (i ρ M2).out fun y M3 => (f_dput v x y M3).out fun _ M4 => .nx ρ M4
def dputK2 (v x : VD) (r : Res VD) (ρ : Env) : Out := r.out fun y M3 => (f_dput v x y M3).out fun _ M4 => .nx ρ M4
def dputK3 (v : VD) (j : Nat) (s : List Nat) (o : Option MO) (ρ : Env) (M : Mem) : Out := match o with
  | some (.dck kvs) => if kvs.length < lim then .nx ρ (M.set j (.dck (putA kvs (.s s) v))) else .fail
  | _ => .fail
@[simp] theorem s_dput_eq {m o i ρ M} : s_dput m o i ρ M = dputK (m ρ M) o i ρ := rfl
@[simp] theorem dputK_ok {v M o i ρ} : dputK (.ok v M) o i ρ = dputK1 v (o ρ M) i ρ := rfl
@[simp] theorem dputK1_ok {v x M i ρ} : dputK1 v (.ok x M) i ρ = dputK2 v x (i ρ M) ρ := rfl
@[simp] theorem dputK2_ok {v s ρ} {j : Nat} {M : Mem} : dputK2 v (.adr j) (.ok (.d (.str s)) M) ρ = dputK3 v j s (M[j]?) ρ M := by
  show (f_dput v (.adr j) (.d (.str s)) M).out _ = _
  unfold f_dput dputK3
  dsimp only
  cases M[j]? with
  | none => rfl
  | some m =>
    cases m with
    | dck kvs =>
      show Res.out (if kvs.length < lim then Res.ok () (M.set j (.dck (putA kvs (.s s) v))) else .fail) _ = _
      by_cases h : kvs.length < lim
      · rw [if_pos h]; dsimp only; rw [if_pos h]; rfl
      · rw [if_neg h]; dsimp only; rw [if_neg h]; rfl
    | _ => rfl
@[simp] theorem dputK3_ok {v j s kvs ρ M} : dputK3 v j s (some (.dck kvs)) ρ M = if kvs.length < lim then .nx ρ (M.set j (.dck (putA kvs (.s s) v))) else .fail := rfl
noncomputable def dcK (vs : List Nat) (mg : VD → Env → Option Env) (mt : Mx Bool) (mk mv : Mx VD) (ρ : Env) (r : Res (List D)) : Res VD := r.bind fun items M1 => (compD (dTurn vs mg mt mk mv ρ) items M1 []).bind fun kvs M2 => .ok (.adr M2.length) (M2 ++ [.dck kvs])
def dcK1 (r : Res (List (DA × VD))) : Res VD := r.bind fun kvs M2 => .ok (.adr M2.length) (M2 ++ [.dck kvs])
@[simp] theorem e_dcomp_eq {vs mi mg mt mk mv ρ M} : e_dcomp vs mi mg mt mk mv ρ M = dcK vs mg mt mk mv ρ (mi ρ M) := rfl
@[simp] theorem dcK_ok {vs mg mt mk mv ρ items M} : dcK vs mg mt mk mv ρ (.ok items M) = dcK1 (compD (dTurn vs mg mt mk mv ρ) items M []) := rfl
@[simp] theorem dcK1_ok {kvs} {M : Mem} : dcK1 (.ok kvs M) = .ok (.adr M.length) (M ++ [.dck kvs]) := rfl
def listDK (o : Option MO) (M : Mem) : Res VD := match o with
  | some (.dck kvs) => .ok (.d (.lst (kvs.map fun p => daD p.1))) M
  | _ => .fail
@[simp] theorem f_listD_a {j : Nat} {M : Mem} : f_listD [.adr j] M = listDK (M[j]?) M := by
  unfold f_listD listDK dctOf
  dsimp only
  cases M[j]? with
  | none => rfl
  | some m => cases m <;> rfl
@[simp] theorem listDK_ok {kvs M} : listDK (some (.dck kvs)) M = .ok (.d (.lst (kvs.map fun p => daD p.1))) M := rfl
def frzDM (o : Option MO) (i j : Nat) (ρ : Env) (M : Mem) : Option (Env × Mem) := match o with
  | some (.dck kvs) => match dats (kvs.map (·.2)) with
    | some ds => some (ρ.set i (some (.d (.dck (kvs.map (·.1)) ds))), M.set j .dead)
    | none => none
  | _ => none
def frzDE (o : Option (Option VD)) (i : Nat) (ρ : Env) (M : Mem) : Option (Env × Mem) := match o with
  | some (some (.adr j)) => frzDM (M[j]?) i j ρ M
  | _ => none
def frzDS (s : Sx) (o : Option (Env × Mem)) : Out := match o with
  | some (ρ1, M1) => s ρ1 M1
  | none => .fail
@[simp] theorem s_frzD_eq {i s} {ρ : Env} {M} : s_frzD i s ρ M = frzDS s (frzDE (ρ[i]?) i ρ M) := by
  unfold s_frzD frzDS frzD1 frzDE frzDM
  rfl
@[simp] theorem frzDE_a {i j : Nat} {ρ : Env} {M : Mem} : frzDE (some (some (.adr j))) i ρ M = frzDM (M[j]?) i j ρ M := rfl
@[simp] theorem frzDS_ok {s ρ M} : frzDS s (some (ρ, M)) = s ρ M := rfl
end G
namespace G
open Sg
def owI : Option Nat → Int
  | none => -1
  | some o => o
def owL (o : Option Nat) : D := .int (owI o)
theorem age_owI (x : Lt) : age x = owI x.2.1 := by
  unfold age owI
  cases x.2.1 <;> rfl
def owN : Option Nat → D
  | none => .non
  | some o => .int o
def letD (e : Option Nat → D) (x : Lt) : D := .tup [.str [x.1], e x.2.1, .int x.2.2]
def birD (e : Option Nat → D) (b : Br) : D := .tup [.str [b.c], .str b.w, e b.h.1, .int b.h.2]
def hmD (e : Option Nat → D) (h : Hm) : D := .tup [e h.1, .int h.2]
def enXK (r : Res (List VD)) : Res (List D) := r.bind fun vs M1 => match vs with
  | [.d (.str s)] => .ok (enumL (chars s) 0) M1
  | _ => .fail
@[simp] theorem i_enX_eq {ms ρ M} : i_enumX ms ρ M = enXK (ms ρ M) := nrfl rfl
@[simp] theorem enXK_s {s M} : enXK (.ok [.d (.str s)] M) = .ok (enumL (chars s) 0) M := nrfl rfl
theorem cutAB {α : Type} {xs : List α} {a b : Nat} : cut xs (some (a : Int)) (some (b : Int)) = (xs.drop a).take (b - a) := by
  have e : ∀ (n d : Nat), HT.sIx xs.length d (some (n : Int)) = min n xs.length := fun n d => by
    unfold HT.sIx
    simp
    omega
  unfold cut
  rw [e, e]
  by_cases h : a ≤ xs.length
  · rw [Nat.min_eq_left h]
    by_cases h2 : b ≤ xs.length
    · rw [Nat.min_eq_left h2]
    · rw [Nat.min_eq_right (show xs.length ≤ b by omega), List.take_of_length_le (by simp), List.take_of_length_le (by simp; omega)]
  · rw [show min a xs.length = xs.length by omega, List.drop_eq_nil_of_le (Nat.le_refl _), List.drop_eq_nil_of_le (as := xs) (i := a) (by omega)]
    simp
/-- xs with its indexes from k on -/
def mapFrom {α β : Type} (h : Nat → α → β) : Nat → List α → List β
  | _, [] => []
  | k, x :: xs => h k x :: mapFrom h (k + 1) xs
theorem mapFrom_eq {α β : Type} (h : Nat → α → β) : ∀ (xs : List α) (k : Nat), mapFrom h k xs = xs.mapIdx fun i x => h (k + i) x
  | [], _ => rfl
  | x :: xs, k => by
    rw [mapFrom, mapFrom_eq h xs, List.mapIdx_cons]
    refine congr (congrArg _ rfl) ?_
    refine List.ext_getElem? fun i => ?_
    simp only [List.getElem?_mapIdx]
    cases xs[i]? <;> simp
    congr 1
    omega
theorem compL_enum {α : Type} {turn : D → Mem → Res (Option D)} {M : Mem} (f : α → D) (h : Nat → α → D) : ∀ (xs : List α) (k : Nat) (acc : List D), (∀ (i : Nat) x, turn (.tup [.int i, f x]) M = .ok (some (h i x)) M) → acc.length + xs.length ≤ lim → compL turn (enumL (xs.map f) k) M acc = .ok (acc ++ mapFrom h k xs) M
  | [], k, acc, _, _ => by simp [enumL, mapFrom, compL]
  | x :: xs, k, acc, ht, hl => by
    simp only [List.length_cons] at hl
    rw [List.map_cons, enumL, compL_cons, ht, clK_some, if_pos (by omega), compL_enum f h xs (k + 1) _ ht (by simp; omega)]
    simp [mapFrom]
theorem chars_map (s : List Nat) : chars s = s.map fun c => D.str [c] := rfl
theorem law_begin_ok {s : List Nat} {M : Mem} (hs : s.length ≤ 1000) : m__law_begin [.d (.str s)] M = .ok (.d (.lst ((startL s).map (letD owL)))) M := by
  have hlim := lim_eq
  unfold m__law_begin
  rw [fnM_eq]
  unfold b__law_begin
  have q := compL_enum (turn := cTurn [1, 2] (g_tup 2 (g_cons (g_name 1) (g_cons (g_name 2) g_nil))) e_yes (e_tup (a_cons (e_var 2) (a_cons (e_c (D.int (-1))) (a_cons (e_var 1) a_nil)))) [some (VD.d (D.str s)), none, none]) (M := M) (fun c => D.str [c]) (fun i c => letD owL (c, none, i)) s 0 [] (fun i c => by simp (disch := first | (simp; done) | omega) [letD, owL, owI, ifl, ifL]) (by simp; omega)
  have e : mapFrom (fun i c => letD owL (c, none, i)) 0 s = (startL s).map (letD owL) := by
    rw [mapFrom_eq]
    refine List.ext_getElem? fun i => ?_
    rw [List.getElem?_mapIdx, List.getElem?_map, startL_at]
    cases s[i]? <;> simp
  simp [chars_map, q, e]
/-- the same for the birth of a word -/
theorem spell_ok {e : Option Nat → D} {L : List Lt} {turn : D → Mem → Res (Option D)} {M : Mem} (hL : L.length ≤ 1000) (ht : ∀ y : Lt, turn (letD e y) M = .ok (some (.str [y.1])) M) : compL turn (L.map (letD e)) M [] = .ok ((L.map (·.1)).map fun c => D.str [c]) M := by
  have hlim := lim_eq
  have := compL_mapA (M := M) (turn := turn) (letD e) (fun y => D.str [y.1]) L [] (fun y _ => ht y) (by simp; omega)
  rw [this]
  simp
theorem cut_one {α : Type} {xs : List α} {p : Nat} : cut xs (some (p : Int)) (some ((p : Int) + 1)) = (xs[p]?).toList := by
  have e : ((p : Int) + 1) = ((p + 1 : Nat) : Int) := by omega
  rw [e, cutAB]
  have e2 : p + 1 - p = 1 := by omega
  rw [e2]
  by_cases h : p < xs.length
  · rw [List.getElem?_eq_getElem h, List.drop_eq_getElem_cons h]
    rfl
  · rw [List.getElem?_eq_none (by omega), List.drop_eq_nil_of_le (by omega)]
    rfl
def mx (a b : Int) : Int := if b > a then b else a
theorem max2 {a b : Int} {M} : f_max2 [.d (.int a), .d (.int b)] M = .ok (.d (.int (mx a b))) M := nrfl rfl
theorem lst_nil {d : D} {r : List D} : D.eqv (.lst (d :: r)) (.lst []) = false := rfl
theorem pl_let {n : Nat} (e : Option Nat → D) (h : ∀ o, D.pl n (e o) = true) (x : Lt) : D.pl (n + 1) (letD e x) = true := by
  simp [letD, D.pl, D.plA, h]
theorem law_home_ok {L : List Lt} {p : Nat} {M : Mem} (hp : p ≤ L.length) : m__law_home [.d (.lst (L.map (letD owL))), .d (.int p)] M = .ok (.d (hmD owL (homeL L p))) M := by
  have hlim := lim_eq
  unfold m__law_home
  rw [fnM_eq]
  unfold b__law_home
  have hr : cut (L.map (letD owL)) (some (p : Int)) (some ((p : Int) + 1)) = ((L[p]?).map (letD owL)).toList := by rw [cut_one, List.getElem?_map]
  have hl : cut (L.map (letD owL)) (some (mx ((p : Int) - 1) 0)) (some (p : Int)) = ((if p = 0 then none else L[p - 1]?).map (letD owL)).toList := by
    by_cases h0 : p = 0
    · rw [if_pos h0]
      subst h0
      exact cutAB (xs := L.map (letD owL)) (a := 0) (b := 0)
    · rw [if_neg h0]
      have e1 : mx ((p : Int) - 1) 0 = ((p - 1 : Nat) : Int) := by
        unfold mx
        split <;> omega
      have e2 : (p : Int) = ((p - 1 : Nat) : Int) + 1 := by omega
      rw [e1, e2, cut_one, List.getElem?_map]
  simp [max2, hl, hr]
  unfold homeL
  have hp : ∀ (n : Nat) (x : Lt), D.pl (n + 1) (letD owL x) = true := fun n x => pl_let owL (fun o => rfl) x
  generalize (if p = 0 then none else L[p - 1]?) = ol
  generalize L[p]? = orr
  cases ol with
  | none =>
    cases orr with
    | none => simp (disch := first | (simp; done) | omega) [hmD, owL, owI, D.eqv, D.eqvA, ifl, ifL]
    | some r => simp (disch := first | (simp; done) | omega) [hmD, lst_nil, letD, owL, D.eqv, D.eqvA, ifl, ifL]
  | some l =>
    cases orr with
    | none => simp (disch := first | (simp; done) | omega) [hmD, lst_nil, letD, owL, D.eqv, D.eqvA, ifl, ifL]
    | some r =>
      by_cases hc : owI r.2.1 < owI l.2.1
      · simp (disch := first | (simp; done) | omega) [hmD, lst_nil, letD, owL, D.eqv, D.eqvA, age_owI, ifl, ifL, hc]
      · simp (disch := first | (simp; done) | omega) [hmD, lst_nil, letD, owL, D.eqv, D.eqvA, age_owI, ifl, ifL, hc]
theorem join_chars {s : List Nat} {M : Mem} : joinK [] (stL (chars s)) M = if s.length ≤ lim then .ok (.d (.str s)) M else .fail := by
  rw [← f_join_l]
  exact f_join_chars
/-- the letters and the births -/
def stD (e : Option Nat → D) (s : Tree) (B : List Br) : D := .tup [.lst ((lts none 0 s).map (letD e)), .lst (B.map (birD e))]
theorem slot_at {ls : List Ln} {start : List Nat} {s : Tree} {B : List Br} (T : TOk (wQ ls) start s B) {p : Nat} (hp : p ≤ s.exp.length) : ∃ a : SlA, s.gaps[p]? = some a ∧ (∀ c, wQ ls a.1 c = wordQ ls (gapQ s.exp p c)) ∧ a.2 = homeL (lts none 0 s) p ∧ a.1 = ((gapQ s.exp p 0).l, (gapQ s.exp p 0).r) := by
  have hg : p < s.gaps.length := by rw [T.glen]; omega
  have e : s.gaps[p]? = some s.gaps[p] := List.getElem?_eq_getElem hg
  have e1 : (partsG (60, 62) s.exp)[p]? = some s.gaps[p].1 := by rw [← T.gp, List.getElem?_map, e]; rfl
  rw [partsG_at, if_pos (by omega)] at e1
  have e2 := Option.some.inj e1
  refine ⟨_, e, fun c => ?_, ?_, e2.symm⟩
  · rw [← e2]
    rfl
  · have h := T.home p (by rw [T.llen]; exact hp)
    rw [List.getElem?_map, e] at h
    exact Option.some.inj h
theorem putT_at {W : Gp → Nat → List Nat} {s : Tree} {B : List Br} {x : Nat × Nat} {a : SlA} (e : s.gaps[x.1]? = some a) : putT W (s, B) x = if W a.1 x.2 = [] then (s, B) else (ins (newB W B.length x.2) s x.1, B ++ [⟨x.2, W a.1 x.2, a.2, a.1⟩]) := by
  unfold putT
  simp only [e]
theorem born_from (n : Nat) (e : Option Nat → D) (w : List Nat) : mapFrom (fun i k => letD e (k, some n, i)) 0 w = (bornL n w).map (letD e) := by
  rw [mapFrom_eq]
  refine List.ext_getElem? fun i => ?_
  rw [List.getElem?_mapIdx, List.getElem?_map, bornL_at]
  cases w[i]? <;> simp
theorem law_put_ok {t u : List Nat} {ls : List Ln} (hl : ∀ l ∈ ls, LnOk t u l) {start : List Nat} {s : Tree} {B : List Br} (T : TOk (wQ ls) start s B) {x : Nat × Nat} (hp : x.1 ≤ s.exp.length) (hn : s.exp.length ≤ 100) (hB : B.length ≤ 1000) {M : Mem} :
    m__law_put [.d (specD t u ls), .d (stD owL s B), .d (stepD x)] M = .ok (.d (stD owL (putT (wQ ls) (s, B) x).1 (putT (wQ ls) (s, B) x).2)) M := by
  have hlim := lim_eq
  obtain ⟨a, e1, e2, e3, e4⟩ := slot_at T hp
  have hll := T.llen
  rw [putT_at e1]
  have hw := (wordQ_ok hl (gapQ s.exp x.1 x.2)).2
  have g1 := law_word_ok (t := t) (u := u) (ls := ls) (q := gapQ s.exp x.1 x.2) (M := M)
  rw [show (gapQ s.exp x.1 x.2).c = x.2 from rfl] at g1
  have g2 := law_home_ok (L := lts none 0 s) (p := x.1) (M := M) (by rw [hll]; exact hp)
  have sp : ∀ (ρ : Env), 11 < ρ.length → compL (cTurn [11] (g_name 11) e_yes (e_op f_ix (e_var 11) (e_c (D.int 0))) ρ) ((lts none 0 s).map (letD owL)) M [] = .ok (s.exp.map fun c => D.str [c]) M := fun ρ hρ => by
    rw [spell_ok (by omega), lts_exp]
    intro y
    simp (disch := first | (simp; done) | omega) [letD, ifl, ifL, hρ]
  unfold m__law_put
  rw [fnM_eq]
  unfold b__law_put stD
  rw [← chars_map] at sp
  have r1 := law_row_gaps_ok (row := s.exp) (M := M) (by omega)
  have r2 := gapsL_at (c := x.2) hp
  by_cases c0 : wordQ ls (gapQ s.exp x.1 x.2) = []
  · rw [if_pos (by rw [e2]; exact c0)]
    rw [c0] at g1
    simp (disch := first | (simp; done) | omega) [ifl, ifL, stepD, sp, r1, r2, g1, join_chars, D.eqv]
  · rw [if_neg (by rw [e2]; exact c0)]
    have q2 : D.eqv (.str (wordQ ls (gapQ s.exp x.1 x.2))) (.str []) = false := by
      simp [D.eqv, c0]
    have z1 : hmD owL (homeL (lts none 0 s) x.1) = .tup [owL a.2.1, .int a.2.2] := by rw [← e3]; rfl
    rw [z1] at g2
    have q3 := compL_enum (turn := cTurn [12, 13] (g_tup 2 (g_cons (g_name 12) (g_cons (g_name 13) g_nil))) e_yes (e_tup (a_cons (e_var 13) (a_cons (e_bi f_len (a_cons (e_var 8) a_nil)) (a_cons (e_var 12) a_nil))))
      [some (VD.d (specD t u ls)), some (VD.d (D.tup [D.lst (List.map (letD owL) (lts none 0 s)), D.lst (List.map (birD owL) B)])), some (VD.d (D.tup [D.int ↑x.fst, D.str [x.snd]])), some (VD.d (D.str (exp s))),
        some (VD.d (D.str (wordQ ls (gapQ (exp s) x.fst x.snd)))), some (VD.d (.tup [owL a.2.1, .int a.2.2])), none, some (VD.d (D.lst (List.map (letD owL) (lts none 0 s)))), some (VD.d (D.lst (List.map (birD owL) B))),
        some (VD.d (D.int ↑x.fst)), some (VD.d (D.str [x.snd])), none, none, none]) (M := M) (fun c => D.str [c]) (fun i c => letD owL (c, some B.length, i)) (wordQ ls (gapQ s.exp x.1 x.2)) 0 [] (fun i c => by simp (disch := first | (simp; done) | omega) [letD, owL, owI, ifl, ifL]) (by simp; omega)
    rw [born_from, List.nil_append, ← chars_map] at q3
    have lb : (bornL B.length (wordQ ls (gapQ s.exp x.1 x.2))).length = (wordQ ls (gapQ s.exp x.1 x.2)).length := bornL_len
    have t1 : cut (List.map (letD owL) (lts none 0 s)) none (some (x.1 : Int)) = ((lts none 0 s).take x.1).map (letD owL) := by rw [cut_take (by simp; omega), List.map_take]
    have t2 : cut (List.map (letD owL) (lts none 0 s)) (some (x.1 : Int)) none = ((lts none 0 s).drop x.1).map (letD owL) := by rw [cut_drop (by simp; omega), List.map_drop]
    have fin : lts none 0 (ins (newB (wQ ls) B.length x.2) s x.1) = (lts none 0 s).take x.1 ++ (bornL B.length (wordQ ls (gapQ s.exp x.1 x.2)) ++ (lts none 0 s).drop x.1) := by rw [ins_lts0 T e1, e2]
    simp (disch := first | (simp; done) | (simp; omega) | omega) [ifl, ifL, stepD, sp, r1, r2, g1, join_chars, q2, g2, q3, t1, t2, fin, e2, birD, List.append_assoc]
end G
namespace G
open Sg
open L2 (atI)
theorem step_B {W : Gp → Nat → List Nat} {s : Tree} {B : List Br} {x : Nat × Nat} : (putT W (s, B) x).2.length ≤ B.length + 1 := by
  rcases putT_or (W := W) s B x with z | ⟨a, e, _, z⟩
  · rw [z]
    exact Nat.le_succ _
  · rw [z]
    simp
end G
namespace G
open Sg
open L2 (atI)
theorem letters_of_ok {s : List Nat} {M : Mem} (hs : s.length ≤ 1000) : m_letters_of [.d (.str s)] M = .ok (.d (.lst ((startL s).map (letD owN)))) M := by
  have hlim := lim_eq
  unfold m_letters_of
  rw [fnM_eq]
  unfold b_letters_of
  have q := compL_enum (turn := cTurn [1, 2] (g_tup 2 (g_cons (g_name 1) (g_cons (g_name 2) g_nil))) e_yes (e_tup (a_cons (e_var 2) (a_cons (e_c .non) (a_cons (e_var 1) a_nil)))) [some (VD.d (D.str s)), none, none]) (M := M) (fun c => D.str [c]) (fun i c => letD owN (c, none, i)) s 0 [] (fun i c => by simp (disch := first | (simp; done) | omega) [letD, owN, ifl, ifL]) (by simp; omega)
  have e : mapFrom (fun i c => letD owN (c, none, i)) 0 s = (startL s).map (letD owN) := by
    rw [mapFrom_eq]
    refine List.ext_getElem? fun i => ?_
    rw [List.getElem?_mapIdx, List.getElem?_map, startL_at]
    cases s[i]? <;> simp
  simp [chars_map, q, e]
theorem spelled_ok {L : List Lt} {M : Mem} (hL : L.length ≤ 1000) : m_spelled_letters [.d (.lst (L.map (letD owN)))] M = .ok (.d (.str (L.map (·.1)))) M := by
  have hlim := lim_eq
  have sp := spell_ok (e := owN) (L := L) (M := M) (turn := cTurn [1] (g_name 1) e_yes (e_op f_ix (e_var 1) (e_c (.int 0))) [some (.d (.lst (L.map (letD owN)))), none]) hL (fun y => by simp (disch := first | (simp; done) | omega) [letD, ifl, ifL])
  rw [← chars_map] at sp
  unfold m_spelled_letters
  rw [fnM_eq]
  unfold b_spelled_letters
  simp (disch := first | (simp; done) | omega) [ifl, ifL, sp, join_chars]
theorem age_of_ok {x : Lt} {M : Mem} : m_age_of [.d (letD owN x)] M = .ok (.d (.int (age x))) M := by
  unfold m_age_of
  rw [fnM_eq]
  unfold b_age_of
  obtain ⟨k, o, i⟩ := x
  cases o <;> simp [letD, owN, age]
theorem birth_home_ok {L : List Lt} {p : Nat} {M : Mem} (hp : p ≤ L.length) : m_birth_home [.d (.lst (L.map (letD owN))), .d (.int p)] M = .ok (.d (hmD owN (homeL L p))) M := by
  have hlim := lim_eq
  unfold m_birth_home
  rw [fnM_eq]
  unfold b_birth_home
  have isL : ∀ (b : Bool) (x : Lt), f_is b (.d (letD owN x)) (.d .non) M = .ok (.d (.bl b)) M := fun b x => by simp [letD]
  have ix1 : ∀ x : Lt, f_ix (.d (letD owN x)) (.d (.int 1)) M = .ok (.d (owN x.2.1)) M := fun x => by simp [letD]
  have ix2 : ∀ x : Lt, f_ix (.d (letD owN x)) (.d (.int 2)) M = .ok (.d (.int x.2.2)) M := fun x => by simp [letD]
  have h1 : ∀ (ρ : Env), ρ[0]? = some (some (.d (.lst (L.map (letD owN))))) → True := fun _ _ => trivial
  unfold homeL
  by_cases hz : p = 0
  · subst hz
    cases e : L[0]? with
    | none =>
      have hl : L = [] := by
        cases L with
        | nil => rfl
        | cons x l => simp at e
      subst hl
      simp (disch := first | (simp; done) | omega) [ifl, ifL, hmD, owN]
    | some r =>
      have hl : 0 < L.length := (List.getElem?_eq_some_iff.mp e).1
      have a0 : atI (L.map (letD owN)) 0 = some (letD owN r) := by
        have := atI_nat' (l := L.map (letD owN)) (n := 0) (a := letD owN r) (by rw [List.getElem?_map, e]; rfl)
        exact this
      have hl' : (0 : Int) < (L.length : Int) := by omega
      simp (disch := first | (simp; done) | omega) [ifl, ifL, hmD, a0, isL, ix1, ix2, hl, hl', e]
  · have hpI : 0 < p := by omega
    have hp1 : p - 1 < L.length := by omega
    have e1 : L[p - 1]? = some L[p - 1] := List.getElem?_eq_getElem hp1
    have a1 : atI (L.map (letD owN)) ((p : Int) - 1) = some (letD owN L[p - 1]) := by
      have e2 : (p : Int) - 1 = ((p - 1 : Nat) : Int) := by omega
      rw [e2]
      exact atI_nat' (by rw [List.getElem?_map, e1]; rfl)
    rw [if_neg hz, e1]
    generalize L[p - 1] = l at a1
    cases e : L[p]? with
    | none =>
      have hl : ¬ (p < L.length) := by
        have := List.getElem?_eq_none_iff.mp e
        omega
      simp (disch := first | (simp; done) | omega) [ifl, ifL, hmD, a1, isL, ix1, ix2, hl, hpI]
    | some r =>
      have hl : p < L.length := by
        have := (List.getElem?_eq_some_iff.mp e).1
        omega
      have a2 : atI (L.map (letD owN)) (p : Int) = some (letD owN r) := atI_nat' (by rw [List.getElem?_map, e]; rfl)
      by_cases hc : age r < age l
      · simp (disch := first | (simp; done) | omega) [ifl, ifL, hmD, a1, a2, isL, ix1, ix2, hl, hpI, age_of_ok, hc]
      · simp (disch := first | (simp; done) | omega) [ifl, ifL, hmD, a1, a2, isL, ix1, ix2, hl, hpI, age_of_ok, hc]
/-- what is true of all births over a book -/
structure BOk (t u : List Nat) (B : List Br) : Prop where
  c : ∀ b ∈ B, b.c ∈ u
  g : ∀ b ∈ B, b.g.1 ∈ 60 :: t ∧ b.g.2 ∈ t ++ [62]
  w : ∀ b ∈ B, b.w.length ≤ 3
theorem BOk.step {t u : List Nat} {ls : List Ln} (hl : ∀ l ∈ ls, LnOk t u l) {start : List Nat} {s : Tree} {B : List Br} (T : TOk (wQ ls) start s B) (hs : ∀ x ∈ s.exp, x ∈ t) {x : Nat × Nat} (hp : x.1 ≤ s.exp.length) (hc : x.2 ∈ u) (h : BOk t u B) : BOk t u (putT (wQ ls) (s, B) x).2 := by
  obtain ⟨a, e1, e2, _, e4⟩ := slot_at T hp
  rw [putT_at e1]
  split
  · exact h
  · have q := gapQ_ok (t := t) (u := u) (c := x.2) hs hp hc
    have q1 : a.1.1 ∈ 60 :: t := by rw [e4]; exact q.l
    have q2 : a.1.2 ∈ t ++ [62] := by rw [e4]; exact q.r
    refine ⟨fun b hb => ?_, fun b hb => ?_, fun b hb => ?_⟩
    · rcases List.mem_append.mp hb with hb | hb
      · exact h.c b hb
      · rw [List.mem_singleton.mp hb]
        exact hc
    · rcases List.mem_append.mp hb with hb | hb
      · exact h.g b hb
      · rw [List.mem_singleton.mp hb]
        exact ⟨q1, q2⟩
    · rcases List.mem_append.mp hb with hb | hb
      · exact h.w b hb
      · rw [List.mem_singleton.mp hb]
        exact (wordQ_ok hl _).2
theorem BOk.run {t u : List Nat} {ls : List Ln} (hl : ∀ l ∈ ls, LnOk t u l) {start : List Nat} : ∀ (ss : List (Nat × Nat)) {s : Tree} {B : List Br}, TOk (wQ ls) start s B → (∀ x ∈ s.exp, x ∈ t) → okS u ls s.exp ss → BOk t u B → BOk t u (ss.foldl (putT (wQ ls)) (s, B)).2
  | [], _, _, _, _, _, h => h
  | x :: ss, s, B, T, hs, ho, h => by
    obtain ⟨h1, h2, h3, h4⟩ := ho
    have q := putT_exp T h1
    have q1 : ∀ y ∈ (putT (wQ ls) (s, B) x).1.exp, y ∈ t := by rw [q]; exact behR_sub hl hs _ _
    have q2 : okS u ls (putT (wQ ls) (s, B) x).1.exp ss := by rw [q]; exact h4
    have T2 : TOk (wQ ls) start (putT (wQ ls) (s, B) x).1 (putT (wQ ls) (s, B) x).2 := T.step
    rw [List.foldl_cons]
    exact BOk.run hl ss T2 q1 q2 (h.step hl T hs h1 h2)
/-- with_birth, over what tells a word -/
noncomputable def wbB (mw : List VD → Mem → Res VD) : Sx :=
    (s_seq (s_asg (e_var 3) (g_tup 2 (g_cons (g_name 6) (g_cons (g_name 7) g_nil))))
    (s_seq (s_asg (e_meth 0 (ar 3 mw) (e_var 0) (a_cons (e_call 2 m_gap_at (a_cons (e_call 1 m_spelled_letters (a_cons (e_var 1) a_nil)) (a_cons (e_var 6) a_nil))) (a_cons (e_var 7) a_nil))) (g_name 4))
    (s_seq (s_if (e_asB (e_op f_eq (e_var 4) (e_c (.str [])))) (s_ret (e_tup (a_cons (e_var 1) (a_cons (e_var 2) a_nil)))) s_skip)
    (s_seq (s_asg (e_call 2 m_birth_home (a_cons (e_var 1) (a_cons (e_var 6) a_nil))) (g_tup 2 (g_cons (g_name 8) (g_cons (g_name 9) g_nil))))
    (s_seq (s_asg (e_comp [10, 11] (i_enumX (a_cons (e_var 4) a_nil)) (g_tup 2 (g_cons (g_name 10) (g_cons (g_name 11) g_nil))) e_yes (e_tup (a_cons (e_var 11) (a_cons (e_bi f_len (a_cons (e_var 2) a_nil)) (a_cons (e_var 10) a_nil))))) (g_name 5))
    (s_ret (e_tup (a_cons (e_lst (a_star (e_sl (e_var 1) o_none (o_some (e_var 6))) (a_star (e_var 5) (a_star (e_sl (e_var 1) (o_some (e_var 6)) o_none) a_nil)))) (a_cons (e_lst (a_star (e_var 2) (a_cons (e_tup (a_cons (e_var 7) (a_cons (e_var 4) (a_cons (e_var 8) (a_cons (e_var 9) a_nil))))) a_nil))) a_nil)))))))))
theorem wb_eq : b_with_birth = wbB m_Book_word := rfl
theorem wbB_ok (mw : List VD → Mem → Res VD) {t u : List Nat} {ls : List Ln} (hl : ∀ l ∈ ls, LnOk t u l) (hm : ∀ (q : Qn) (M : Mem), QnOk t u q → mw [.d (bookD t u ls), .d (.str [q.l, q.r]), .d (.str [q.c])] M = .ok (.d (.str (wordQ ls q))) M)
    {start : List Nat} {s : Tree} {B : List Br} (T : TOk (wQ ls) start s B) (hs : ∀ x ∈ s.exp, x ∈ t) {x : Nat × Nat} (hp : x.1 ≤ s.exp.length) (hc : x.2 ∈ u) (hn : s.exp.length ≤ 100) (hB : B.length ≤ 1000) {M : Mem} :
    wbB mw [some (.d (bookD t u ls)), some (.d (.lst ((lts none 0 s).map (letD owN)))), some (.d (.lst (B.map (birD owN)))), some (.d (stepD x)), none, none, none, none, none, none, none, none] M = .ret (.d (stD owN (putT (wQ ls) (s, B) x).1 (putT (wQ ls) (s, B) x).2)) M := by
  have hlim := lim_eq
  obtain ⟨a, e1, e2, e3, e4⟩ := slot_at T hp
  have hll := T.llen
  rw [putT_at e1]
  have hw := (wordQ_ok hl (gapQ s.exp x.1 x.2)).2
  have g1 := hm (gapQ s.exp x.1 x.2) M (gapQ_ok hs hp hc)
  rw [show (gapQ s.exp x.1 x.2).c = x.2 from rfl] at g1
  have g2 := birth_home_ok (L := lts none 0 s) (p := x.1) (M := M) (by rw [hll]; exact hp)
  have sp := spelled_ok (L := lts none 0 s) (M := M) (by omega)
  rw [lts_exp] at sp
  have ga := gap_at_ok (row := s.exp) (p := x.1) x.2 hp (by omega) (M := M)
  unfold wbB stD
  by_cases c0 : wordQ ls (gapQ s.exp x.1 x.2) = []
  · rw [if_pos (by rw [e2]; exact c0)]
    rw [c0] at g1
    have isb : ∀ M, isC 0 M (.d (bookD t u ls)) = true := fun M => rfl
    simp (disch := first | (simp; done) | omega) [ifl, ifL, stepD, sp, ga, g1, D.eqv, isb]
  · rw [if_neg (by rw [e2]; exact c0)]
    have q2 : D.eqv (.str (wordQ ls (gapQ s.exp x.1 x.2))) (.str []) = false := by
      simp [D.eqv, c0]
    have z1 : hmD owN (homeL (lts none 0 s) x.1) = .tup [owN a.2.1, .int a.2.2] := by rw [← e3]; rfl
    rw [z1] at g2
    have q3 := compL_enum (turn := cTurn [10, 11] (g_tup 2 (g_cons (g_name 10) (g_cons (g_name 11) g_nil))) e_yes (e_tup (a_cons (e_var 11) (a_cons (e_bi f_len (a_cons (e_var 2) a_nil)) (a_cons (e_var 10) a_nil))))
      [some (.d (bookD t u ls)), some (.d (.lst ((lts none 0 s).map (letD owN)))), some (.d (.lst (B.map (birD owN)))), some (.d (.tup [.int x.1, .str [x.2]])), some (.d (.str (wordQ ls (gapQ s.exp x.1 x.2)))), none, some (.d (.int x.1)), some (.d (.str [x.2])), some (.d (owN a.2.1)), some (.d (.int a.2.2)), none, none]) (M := M) (fun c => D.str [c]) (fun i c => letD owN (c, some B.length, i)) (wordQ ls (gapQ s.exp x.1 x.2)) 0 [] (fun i c => by simp (disch := first | (simp; done) | omega) [letD, owN, ifl, ifL]) (by simp; omega)
    rw [born_from, List.nil_append, ← chars_map] at q3
    have lb : (bornL B.length (wordQ ls (gapQ s.exp x.1 x.2))).length = (wordQ ls (gapQ s.exp x.1 x.2)).length := bornL_len
    have t1 : cut (List.map (letD owN) (lts none 0 s)) none (some (x.1 : Int)) = ((lts none 0 s).take x.1).map (letD owN) := by rw [cut_take (by simp; omega), List.map_take]
    have t2 : cut (List.map (letD owN) (lts none 0 s)) (some (x.1 : Int)) none = ((lts none 0 s).drop x.1).map (letD owN) := by rw [cut_drop (by simp; omega), List.map_drop]
    have fin : lts none 0 (ins (newB (wQ ls) B.length x.2) s x.1) = (lts none 0 s).take x.1 ++ (bornL B.length (wordQ ls (gapQ s.exp x.1 x.2)) ++ (lts none 0 s).drop x.1) := by rw [ins_lts0 T e1, e2]
    have isb : ∀ M, isC 0 M (.d (bookD t u ls)) = true := fun M => rfl
    have dt : dats (List.take x.1 (List.map (VD.d ∘ letD owN) (lts none 0 s)) ++ (List.map (VD.d ∘ letD owN) (bornL B.length (wordQ ls (gapQ s.exp x.1 x.2))) ++ List.drop x.1 (List.map (VD.d ∘ letD owN) (lts none 0 s)))) = some (List.take x.1 (List.map (letD owN) (lts none 0 s)) ++ (List.map (letD owN) (bornL B.length (wordQ ls (gapQ s.exp x.1 x.2))) ++ List.drop x.1 (List.map (letD owN) (lts none 0 s)))) := by
      have z := dats_map (ds := List.take x.1 (List.map (letD owN) (lts none 0 s)) ++ (List.map (letD owN) (bornL B.length (wordQ ls (gapQ s.exp x.1 x.2))) ++ List.drop x.1 (List.map (letD owN) (lts none 0 s))))
      simpa using z
    have dt2 : ∀ d : D, dats (List.map (VD.d ∘ birD owN) B ++ [.d d]) = some (List.map (birD owN) B ++ [d]) := fun d => by
      have z := dats_app1 (xs := List.map (birD owN) B) (y := d)
      simpa using z
    simp (disch := first | (simp; done) | (simp; omega) | omega) [ifl, ifL, stepD, sp, ga, g1, q2, g2, q3, t1, t2, fin, e2, birD, List.append_assoc, isb, dt, dt2]
end G
namespace G
open PySem PySem.Spec PyProof.Rows L2 TL
abbrev Tn := Gp × Nat × Nat
/-- turns that lead from a gap to a gap -/
def Way (ls : List Ln) (u : List Nat) : Gp → List Tn → Gp → Prop
  | g0, [], g => g0 = g
  | g0, (h, c, i) :: r, g => g0 = h ∧ c ∈ u ∧ ∃ g1, (partsG h (wQ ls h c))[i]? = some g1 ∧ Way ls u g1 r g
theorem Way.snoc {ls : List Ln} {u : List Nat} {h g : Gp} {c i : Nat} (hc : c ∈ u) (hp : (partsG h (wQ ls h c))[i]? = some g) : ∀ {g0 : Gp} {ts : List Tn}, Way ls u g0 ts h → Way ls u g0 (ts ++ [(h, c, i)]) g
  | g0, [], w => ⟨w, hc, g, hp, rfl⟩
  | g0, (h', c', i') :: r, w => by
    obtain ⟨w1, w2, g1, w3, w4⟩ := w
    exact ⟨w1, w2, g1, w3, Way.snoc hc hp w4⟩
/-- the steps, from a place on -/
def stp : Nat → List Tn → List (Nat × Nat)
  | _, [] => []
  | p, (_, c, i) :: r => (p, c) :: stp (p + i) r
/-- there are as many entries as births are needed, and one -/
theorem depth {t u : List Nat} {ls : List Ln} {R : List Gp} {S : List En} (ok : EnOk t u ls R S) {e : En} (he : e ∈ S) : e.n < S.length := by
  have key : ∀ (n : Nat) (f : En), f ∈ S → f.n = n → ∀ m, m ≤ n → m ∈ S.map (·.n) := by
    intro n
    induction n with
    | zero =>
      intro f hf hn m hm
      exact List.mem_map.mpr ⟨f, hf, by omega⟩
    | succ n ih =>
      intro f hf hn m hm
      by_cases q : m = n + 1
      · exact List.mem_map.mpr ⟨f, hf, by omega⟩
      · have h := ok.tr f hf
        split at h
        · omega
        · obtain ⟨h1, h2, f2, h3, h4, h5⟩ := h
          exact ih f2 h3 (by omega) m (by omega)
  have := len_subF (l := List.range (e.n + 1)) (m := S.map (·.n)) List.nodup_range fun x hx => key e.n e he rfl x (by have := List.mem_range.mp hx; omega)
  rw [List.length_range, List.length_map] at this
  omega
end G
namespace G
open PySem PySem.Spec PyProof.Rows L2 TL
def lidxF (r : Res VD) (ms : Mx (List VD)) (ρ : Env) : Res VD := r.bind fun x M1 => match lstOf M1 x with
  | some _ => (ms ρ M1).bind fun vs M2 => f_lidx (x :: vs) M2
  | none => .fail
def lidxF2 (x : VD) (r : Res (List VD)) : Res VD := r.bind fun vs M2 => f_lidx (x :: vs) M2
@[simp] theorem e_lidx_eqF {a ms ρ M} : e_lidx a ms ρ M = lidxF (a ρ M) ms ρ := rfl
@[simp] theorem lidxF_ok {ds M ms ρ} : lidxF (.ok (.d (.lst ds)) M) ms ρ = lidxF2 (.d (.lst ds)) (ms ρ M) := rfl
@[simp] theorem lidxF2_ok {x vs M} : lidxF2 x (.ok vs M) = f_lidx (x :: vs) M := rfl
noncomputable def tT : Mx Bool := (e_asB (e_op (f_is true) (e_op f_dget (e_var 3) (e_var 2)) (e_c .non)))
end G
namespace G
open PySem PySem.Spec PyProof.Rows L2 TL
/-- a letter; a comer that is still to be put in -/
inductive Tk
  | l (x : Nat)
  | c (x : Nat)
def lft : Nat → List Tk → Nat
  | d, [] => d
  | _, .l x :: r => lft x r
  | d, .c _ :: r => lft d r
def rgt : List Tk → Nat
  | [] => 62
  | .l x :: _ => x
  | .c _ :: r => rgt r
def lw (w : List Nat) : List Tk := w.map .l
/-- put in from the left -/
def fin (W : Gp → Nat → List Nat) : Nat → List Tk → List Nat
  | _, [] => []
  | _, .l x :: r => x :: fin W x r
  | d, .c c :: r => W (d, rgt r) c ++ fin W (lft d (lw (W (d, rgt r) c))) r
theorem lft_app : ∀ (d : Nat) (A B : List Tk), lft d (A ++ B) = lft (lft d A) B
  | _, [], _ => rfl
  | _, .l x :: A, B => lft_app x A B
  | d, .c _ :: A, B => lft_app d A B
theorem rgt_app_c : ∀ (A B : List Tk) (c : Nat), rgt (A ++ .c c :: B) = rgt (A ++ B)
  | [], _, _ => rfl
  | .l x :: A, B, c => rfl
  | .c _ :: A, B, c => rgt_app_c A B c
section
variable (W : Gp → Nat → List Nat) (S : Gp → Prop) (u : List Nat)
/-- closed: the parts of a word of a gap in it, and the squares -/
structure SqOk : Prop where
  fst : ∀ g, S g → ∀ c ∈ u, ∀ x w, W g c = x :: w → S (g.1, x) ∧ S (lft g.1 (lw (W g c)), g.2)
  sq : ∀ g, S g → ∀ a ∈ u, ∀ b ∈ u, W g a ++ W (lft g.1 (lw (W g a)), g.2) b = W (g.1, rgt (lw (W g b) ++ [.l g.2])) a ++ W g b
/-- all comers are of the book, their gaps are in the set -/
def Gok (d : Nat) (T : List Tk) : Prop := ∀ A c B, T = A ++ .c c :: B → S (lft d A, rgt B) ∧ c ∈ u
end
variable {W : Gp → Nat → List Nat} {S : Gp → Prop} {u : List Nat}
theorem has_l : ∀ (A B C : List Tk), rgt (A ++ B) = rgt (A ++ C) ∨ (∀ D, rgt (A ++ D) = rgt D) ∧ ∀ d, lft d A = d
  | [], B, C => .inr ⟨fun _ => rfl, fun _ => rfl⟩
  | .l _ :: A, B, C => .inl rfl
  | .c _ :: A, B, C => by
    rcases has_l A B C with h | h
    · exact .inl h
    · exact .inr h
theorem has_r : ∀ (A : List Tk), (∀ d e, lft d A = lft e A) ∨ (∀ D, rgt (A ++ D) = rgt D) ∧ ∀ d, lft d A = d
  | [] => .inr ⟨fun _ => rfl, fun _ => rfl⟩
  | .l _ :: A => .inl fun _ _ => rfl
  | .c _ :: A => by
    rcases has_r A with h | h
    · exact .inl h
    · exact .inr h
theorem split_lw {w : List Nat} {B K B' : List Tk} {e : Nat} (h : lw w ++ B = K ++ .c e :: B') : ∃ L, K = lw w ++ L ∧ B = L ++ .c e :: B' := by
  induction w generalizing K with
  | nil => exact ⟨K, rfl, h⟩
  | cons x w ih =>
    cases K with
    | nil => cases h
    | cons y K =>
      have h : Tk.l x :: (lw w ++ B) = y :: (K ++ .c e :: B') := h
      obtain ⟨h1, h2⟩ := List.cons.inj h
      obtain ⟨L, h3, h4⟩ := ih h2
      exact ⟨L, by rw [← h1, h3]; rfl, h4⟩
theorem Gok.step (ok : SqOk W S u) {d : Nat} {A B : List Tk} {c : Nat} (h : Gok S u d (A ++ .c c :: B)) : Gok S u d (A ++ (lw (W (lft d A, rgt B) c) ++ B)) := by
  intro A' e B' he
  obtain ⟨hg, hc⟩ := h A c B rfl
  have right : ∀ K, A' = A ++ K → lw (W (lft d A, rgt B) c) ++ B = K ++ .c e :: B' → S (lft d A', rgt B') ∧ e ∈ u := fun K k1 k2 => by
    obtain ⟨L, m1, m2⟩ := split_lw k2
    obtain ⟨q1, q2⟩ := h (A ++ .c c :: L) e B' (by rw [m2]; simp)
    refine ⟨?_, q2⟩
    rw [k1, m1, lft_app, lft_app]
    rw [lft_app] at q1
    have q1 : S (lft (lft d A) L, rgt B') := q1
    rcases has_r L with z | ⟨z1, z2⟩
    · rw [z _ (lft d A)]
      exact q1
    · rw [z2]
      rw [z2] at q1
      cases hw : W (lft d A, rgt B) c with
      | nil => exact q1
      | cons x w =>
        have := (ok.fst _ hg c hc x w hw).2
        rw [hw] at this
        have hr : rgt B = rgt B' := by
          rw [m2, z1]
          rfl
        rw [hr] at this
        exact this
  rcases List.append_eq_append_iff.mp he with ⟨K, k1, k2⟩ | ⟨K, k1, k2⟩
  · exact right K k1 k2
  · cases K with
    | nil => exact right [] (by rw [k1]; simp) k2.symm
    | cons y K =>
      have k2 : Tk.c e :: B' = y :: (K ++ (lw (W (lft d A, rgt B) c) ++ B)) := k2
      cases k2
      obtain ⟨q1, q2⟩ := h A' e (K ++ .c c :: B) (by rw [k1]; simp)
      refine ⟨?_, q2⟩
      rw [rgt_app_c] at q1
      rcases has_l K B (lw (W (lft d A, rgt B) c) ++ B) with z | ⟨z1, z2⟩
      · rw [← z]
        exact q1
      · rw [z1]
        rw [z1] at q1
        have hA : lft d A = lft d A' := by
          rw [k1, lft_app]
          show lft (lft d A') K = _
          rw [z2]
        rw [hA] at hg ⊢
        cases hw : W (lft d A', rgt B) c with
        | nil => exact q1
        | cons x w => exact (ok.fst _ hg c hc x w hw).1
end G
namespace G
open PySem PySem.Spec PyProof.Rows L2 TL
def slA (o : Option MO) (lo hi : Option Int) (M : Mem) : Res VD := match o with
  | some (.lst ds) => .ok (.d (.lst (cut ds lo hi))) M
  | _ => .fail
@[simp] theorem f_sl_a {j : Nat} {lo hi} {M : Mem} : f_sl (.adr j) lo hi M = slA (M[j]?) lo hi M := by
  unfold f_sl lsqOf slA
  dsimp only
  all_goals (cases M[j]? with
    | none => rfl
    | some m => cases m <;> rfl)
@[simp] theorem slA_ok {ds lo hi M} : slA (some (.lst ds)) lo hi M = .ok (.d (.lst (cut ds lo hi))) M := nrfl rfl
def joinA (sep : List Nat) (o : Option MO) (M : Mem) : Res VD := match o with
  | some (.lst ds) => joinK sep (stL ds) M
  | _ => .fail
@[simp] theorem f_join_a {sep : List Nat} {j : Nat} {M : Mem} : f_join (.d (.str sep)) (.adr j) M = joinA sep (M[j]?) M := by
  unfold f_join seqOf joinA
  dsimp only
  all_goals (cases M[j]? with
    | none => rfl
    | some m => cases m <;> rfl)
@[simp] theorem joinA_ok {sep ds M} : joinA sep (some (.lst ds)) M = joinK sep (stL ds) M := nrfl rfl
@[simp] theorem f_mulO_l {s j} {M : Mem} : f_mulO (.d (.lst s)) (.d (.int j)) M = gi (j < 2 ^ 60 ∧ -(2 ^ 60) < j ∧ s.length * j.toNat ≤ lim) (.ok (.adr M.length) (M ++ [.lst (List.replicate j.toNat s).flatten])) .fail := nrfl rfl
noncomputable def lrgK (r : Res VD) : Res VD := r.bind f_lrg
@[simp] theorem e_lrg_eq {m ρ M} : e_lrg m ρ M = lrgK (m ρ M) := nrfl rfl
@[simp] theorem lrgK_i {j M} : lrgK (.ok (.d (.int j)) M) = gi (0 ≤ j ∧ j ≤ 1000000) (.ok (.d (.lst (range 0 j.toNat))) M) .fail := nrfl rfl
def insK (r : Res VD) (ms : Mx (List VD)) (ρ : Env) : Res VD := r.bind fun x M1 => match lstOf M1 x with
  | some _ => (ms ρ M1).bind fun vs M2 => f_ins x vs M2
  | none => .fail
def insK1 (o : Option (List D)) (x : VD) (ms : Mx (List VD)) (ρ : Env) (M1 : Mem) : Res VD := match o with
  | some _ => (ms ρ M1).bind fun vs M2 => f_ins x vs M2
  | none => .fail
def insK2 (x : VD) (r : Res (List VD)) : Res VD := r.bind fun vs M2 => f_ins x vs M2
def insM (o : Option MO) (j : Nat) (i : Int) (d : D) (M : Mem) : Res VD := match o with
  | some (.lst ds) => if ds.length < lim ∧ 0 ≤ i ∧ i ≤ 1000000 then .ok (.d .non) (M.set j (.lst (ds.take i.toNat ++ [d] ++ ds.drop i.toNat))) else .fail
  | _ => .fail
@[simp] theorem e_ins_eq {a ms ρ M} : e_ins a ms ρ M = insK (a ρ M) ms ρ := nrfl rfl
@[simp] theorem insK_ok {x M ms ρ} : insK (.ok x M) ms ρ = insK1 (lstOf M x) x ms ρ M := nrfl rfl
@[simp] theorem insK1_ok {ds x ms ρ M} : insK1 (some ds) x ms ρ M = insK2 x (ms ρ M) := nrfl rfl
@[simp] theorem insK2_ok {j : Nat} {i d} {M : Mem} : insK2 (.adr j) (.ok [.d (.int i), .d d] M) = insM (M[j]?) j i d M := nrfl rfl
@[simp] theorem insM_ok {ds} {j : Nat} {i d} {M : Mem} : insM (some (.lst ds)) j i d M = if ds.length < lim ∧ 0 ≤ i ∧ i ≤ 1000000 then .ok (.d .non) (M.set j (.lst (ds.take i.toNat ++ [d] ++ ds.drop i.toNat))) else .fail := nrfl rfl
theorem Bes.all {ls : List Ln} {row cs : List Nat} {p : Nat} {t u : List Nat} (hl : ∀ l ∈ ls, LnOk t u l) : ∀ {rest : List Nat} {ws : List (List Nat)}, Bes cs t u ws rest → Bes cs t u (besW ls row p cs ws rest) []
  | [], ws, h => h
  | a :: rest, ws, h => Bes.all (rest := rest) (ws := ws.set a (newW ls row p cs ws a)) hl (Bes.next hl h)
theorem Bes.init {t u cs : List Nat} {order : List Nat} (h : order.Perm (List.range cs.length)) : Bes cs t u (List.replicate cs.length []) order := by
  have hm : ∀ a ∈ order, a < cs.length := fun a ha => List.mem_range.mp (h.subset ha)
  refine ⟨by simp, h.nodup_iff.mpr List.nodup_range, hm, fun a ha => by rw [List.getElem?_replicate, if_pos (hm a ha)], fun w hw => ?_, fun w hw => ?_⟩
  · rw [(List.mem_replicate.mp hw).2]
    simp
  · rw [(List.mem_replicate.mp hw).2]
    simp
end G
namespace G
open PySem PySem.Spec PyProof.Rows L2 TL
def sumK (o : Option (List Int)) (M : Mem) : Res VD := match o with
  | some is => .ok (.d (.int is.sum)) M
  | none => .fail
@[simp] theorem f_sum_l {s M} : f_sum [.d (.lst s)] M = sumK (inL s) M := by
  unfold f_sum sumK
  first
  | rfl
  | (dsimp only; cases inL s <;> rfl)
@[simp] theorem sumK_ok {is M} : sumK (some is) M = .ok (.d (.int is.sum)) M := nrfl rfl
def srtK (o : Option (List Int)) (M : Mem) : Res VD := match o with
  | some ns => if ns.length < 64 then .ok (.d (.lst ((srtI ns).map D.int))) M else .fail
  | none => .fail
@[simp] theorem f_sortI_l {s M} : f_sortI [.d (.lst s)] M = srtK (inL s) M := nrfl rfl
@[simp] theorem srtK_ok {ns M} : srtK (some ns) M = if ns.length < 64 then .ok (.d (.lst ((srtI ns).map D.int))) M else .fail := nrfl rfl
end G
namespace G
open PySem PySem.Spec PyProof.Rows L2 TL
theorem is_row_okS {t row : List Nat} (hr : ∀ x ∈ row, x ∈ t) (hn : row.length ≤ 16) {M : Mem} : m_is_row [.d (.str row), .d (.str t)] M = .ok (.d (.bl true)) M := by
  have hlim := lim_eq
  have e := is_row_s row t M (by omega)
  rw [show (row.all fun c => decide (c ∈ t)) = true by simpa using hr, show decide ((row.length : Int) ≤ 16) = true by simp; omega] at e
  exact e
end G
namespace G
open Sg
open L2 (atI)
noncomputable def dcNK (vs : List Nat) (mg : VD → Env → Option Env) (mt : Mx Bool) (mk mv : Mx VD) (ρ : Env) (r : Res (List D)) : Res VD := r.bind fun items M1 => (compN (nTurn vs mg mt mk mv ρ) items M1 []).bind fun kvs M2 => .ok (.d (.dcp (kvs.map (·.1)) (kvs.map (·.2)))) M2
def dcNK1 (r : Res (List (DN × D))) : Res VD := r.bind fun kvs M2 => .ok (.d (.dcp (kvs.map (·.1)) (kvs.map (·.2)))) M2
@[simp] theorem e_dcompN_eq {vs mi mg mt mk mv ρ M} : e_dcompN vs mi mg mt mk mv ρ M = dcNK vs mg mt mk mv ρ (mi ρ M) := nrfl rfl
@[simp] theorem dcNK_ok {vs mg mt mk mv ρ items M} : dcNK vs mg mt mk mv ρ (.ok items M) = dcNK1 (compN (nTurn vs mg mt mk mv ρ) items M []) := nrfl rfl
@[simp] theorem dcNK1_ok {kvs M} : dcNK1 (.ok kvs M) = .ok (.d (.dcp (kvs.map (·.1)) (kvs.map (·.2)))) M := nrfl rfl
def ngK (mk : Mx VD) (ρ : Env) (r : Res VD) : Res VD := r.bind fun v M1 => match v with
  | .d (.dcp ks xs) => (mk ρ M1).bind fun x M2 => f_nget1 v x M2
  | _ => .fail
def ngK1 (ks : List DN) (xs : List D) (r : Res VD) : Res VD := r.bind fun x M2 => f_nget1 (.d (.dcp ks xs)) x M2
def ngV (o : Option DN) (ks : List DN) (xs : List D) (M : Mem) : Res VD := match o with
  | some a => .ok (.d ((valA (ks.zip xs) a).getD .non)) M
  | none => .fail
@[simp] theorem e_nget1_eq {md mk ρ M} : e_nget1 md mk ρ M = ngK mk ρ (md ρ M) := nrfl rfl
@[simp] theorem ngK_ok {mk ρ ks xs M} : ngK mk ρ (.ok (.d (.dcp ks xs)) M) = ngK1 ks xs (mk ρ M) := nrfl rfl
@[simp] theorem ngK1_ok {ks xs kd M} : ngK1 ks xs (.ok (.d kd) M) = ngV (dnOf kd) ks xs M := nrfl rfl
@[simp] theorem ngV_ok {a ks xs M} : ngV (some a) ks xs M = .ok (.d ((valA (ks.zip xs) a).getD .non)) M := nrfl rfl
noncomputable def revRK (r : Res VD) : Res (List D) := r.bind fun v M1 => match v with
  | .d (.int j) => gi (-(2 ^ 60) < j ∧ j < 2 ^ 60) (.ok (rangeR j.toNat) M1) .fail
  | _ => .fail
@[simp] theorem i_revR_eq {m : Mx VD} {ρ M} : i_revR m ρ M = revRK (m ρ M) := nrfl rfl
end G
namespace G
open Sg
open L2 (atI)
section
variable {t u : List Nat} {ls : List Ln} {start : List Nat} {s : Tree} {B : List Br}
theorem with_birth_ok (k : BkOk t u) (hl : ∀ l ∈ ls, LnOk t u l) (T : TOk (wQ ls) start s B) (hs : ∀ x ∈ s.exp, x ∈ t) {x : Nat × Nat} (hp : x.1 ≤ s.exp.length) (hc : x.2 ∈ u) (hn : s.exp.length ≤ 100) (hB : B.length ≤ 1000) {M : Mem} :
    m_with_birth [.d (bookD t u ls), .d (.lst ((lts none 0 s).map (letD owN))), .d (.lst (B.map (birD owN))), .d (stepD x)] M = .ok (.d (stD owN (putT (wQ ls) (s, B) x).1 (putT (wQ ls) (s, B) x).2)) M := by
  unfold m_with_birth
  rw [fnM_eq, wb_eq]
  have e := wbB_ok m_Book_word hl (fun q M hq => word_ok k hq) T hs hp hc hn hB (M := M)
  simp [e]
end
end G
namespace G
open Sg
open L2 (atI)
def zipMK (r : Res (List VD)) : Res (List D) := r.bind zipMI
@[simp] theorem i_zipM_eq {a ρ M} : i_zipM a ρ M = zipMK (a ρ M) := nrfl rfl
@[simp] theorem zipMK_l {a b M} : zipMK (.ok [.d (.lst a), .d (.lst b)] M) = .ok (zipL a b) M := nrfl rfl
@[simp] theorem zipMK_m {a b M} : zipMK (.ok [.d (.tup a), .d (.lst b)] M) = .ok (zipL a b) M := nrfl rfl
end G
namespace G
open Sg
open L2 (atI)
section
variable {t u : List Nat} {ls : List Ln} {start : List Nat} {s : Tree} {B : List Br}
/-- the amount of a birth's whole stretch -/
def valT (s : Tree) (B : List Br) (m : Nat × Br → Nat) (i : Nat) : Nat := match B[i]? with
  | some b => m (i, b) + tot m (subT s i)
  | none => 0
theorem TOk.val (T : TOk (wQ ls) start s B) (nd : (s.subs.map (·.1.1)).Nodup) {m : Nat × Br → Nat} {b : Nat × Br} {i : Tree} (h : (b, i) ∈ s.subs) : valT s B m b.1 = m b + tot m i := by
  obtain ⟨h1, h2, h3, h4⟩ := subs_un s true none 0 T.alt T.un b i h
  unfold valT
  rw [h3, subT_at nd h]
end
end G
namespace G
open Sg
open L2 (atI)
section
variable {t u : List Nat} {ls : List Ln} {start : List Nat} {s : Tree} {B : List Br}
def stSK (x : Res VD) (r : Mx (List VD)) (ρ : Env) : Res (List VD) := x.bind fun v M1 => match v with
  | .d (.str s) => if s.length ≤ lim then (r ρ M1).bind fun vs M2 => .ok ((chars s).map .d ++ vs) M2 else .fail
  | _ => .fail
def stS2 (s : List Nat) (x : Res (List VD)) : Res (List VD) := x.bind fun vs M2 => .ok ((chars s).map .d ++ vs) M2
@[simp] theorem a_starS_eq {a r ρ M} : a_starS a r ρ M = stSK (a ρ M) r ρ := nrfl rfl
@[simp] theorem stSK_s {s M r ρ} : stSK (.ok (.d (.str s)) M) r ρ = if s.length ≤ lim then stS2 s (r ρ M) else .fail := nrfl rfl
@[simp] theorem stS2_ok {s vs M} : stS2 s (.ok vs M) = .ok ((chars s).map .d ++ vs) M := nrfl rfl
end
end G
namespace G
open Sg
open L2 (atI)
section
variable {t u : List Nat} {ls : List Ln} {start : List Nat} {s : Tree} {B : List Br}
/-- the cell of a grown row -/
def grM (fs : List VD) : MO := .ins 50 fs
def GrAt (M : Mem) (i : Nat) (fs : List VD) : Prop := M[i]? = some (grM fs)
theorem GrAt.lt {M : Mem} {i : Nat} {fs : List VD} (h : GrAt M i fs) : i < M.length := (List.getElem?_eq_some_iff.mp h).1
theorem GrAt.app {M : Mem} {i : Nat} {fs : List VD} (h : GrAt M i fs) (X : Mem) : GrAt (M ++ X) i fs := by
  have hl := h.lt
  unfold GrAt at *
  rw [List.getElem?_append_left hl]
  exact h
theorem GrAt.isC {M : Mem} {i : Nat} {fs : List VD} (h : GrAt M i fs) : isC 50 M (.adr i) = true := by
  unfold GrAt grM at h
  simp [G.isC, h]
theorem GrAt.fld {M : Mem} {i k : Nat} {fs : List VD} {v : VD} (h : GrAt M i fs) (hk : fs[k]? = some v) : f_fld (tb 50 k) (.adr i) M = .ok v M := by
  unfold GrAt grM at h
  simp [f_fld, h, tb, hk]
theorem GrAt.put {M : Mem} {i k : Nat} {fs : List VD} {v : VD} (h : GrAt M i fs) (hk : k < fs.length) : f_put (tb 50 k) v (.adr i) M = .ok () (M.set i (grM (fs.set k v))) := by
  unfold GrAt grM at h
  unfold f_put
  simp only [h]
  have e : tb 50 k 50 = some k := by simp [tb]
  rw [e]
  simp only
  rw [if_pos (by omega), if_pos hk]
  rfl
theorem GrAt.set {M : Mem} {i : Nat} {fs gs : List VD} (h : GrAt M i fs) : GrAt (M.set i (grM gs)) i gs := by
  unfold GrAt
  rw [List.getElem?_set_self h.lt]
theorem GrAt.set_app {M : Mem} {i : Nat} {fs gs : List VD} (h : GrAt M i fs) (X : Mem) : (M ++ X).set i (grM gs) = M.set i (grM gs) ++ X := List.set_append_left _ _ h.lt
theorem set_set {M : Mem} {i : Nat} {a b : MO} : (M.set i a).set i b = M.set i b := by simp
theorem atI_snocR {α : Type} {xs : List α} {x : α} : atI (xs ++ [x]) (-1) = some x := by
  unfold atI L2.ixN
  rw [if_neg (by omega), if_pos (by simp; omega)]
  simp
  rw [show (-1 + ((xs.length : Int) + 1)).toNat = xs.length by omega]
  simp
/-- self.letters, self.own_births = .. -/
def as45 (r : Res (List VD)) (i : Nat) (ρ : Env) : Out := r.out fun vs M => match vs with
  | [a, b] => (f_put (tb 50 4) a (.adr i) M).out fun _ M1 => (f_put (tb 50 5) b (.adr i) M1).out fun _ M2 => .nx ρ M2
  | _ => .fail
theorem asg45 {ms : Mx (List VD)} {i : Nat} {ρ : Env} {M : Mem} : s_asgA 2 ms (ga_fld (tb 50 4) (e_var 0) (ga_fld (tb 50 5) (e_var 0) ga_nil)) (some (.adr i) :: ρ) M = as45 (ms (some (.adr i) :: ρ) M) i (some (.adr i) :: ρ) := by
  have hlim := lim_eq
  unfold s_asgA as45
  cases ms (some (.adr i) :: ρ) M with
  | fail => rfl
  | exc c fs M1 => rfl
  | ok vs M1 =>
    show (if vs.length = 2 ∧ 2 ≤ lim then _ else Out.fail) = _
    match vs with
    | [] => rfl
    | [a] => rfl
    | [a, b] =>
      rw [if_pos ⟨rfl, by omega⟩]
      have v0 : ∀ M, e_var 0 (some (.adr i) :: ρ) M = .ok (.adr i) M := fun M => rfl
      show ((e_var 0 (some (.adr i) :: ρ) M1).out fun x M2 => (f_put (tb 50 4) a x M2).out fun _ M3 => (e_var 0 (some (.adr i) :: ρ) M3).out fun x M2 => (f_put (tb 50 5) b x M2).out fun _ M3 => .nx (some (.adr i) :: ρ) M3) = (f_put (tb 50 4) a (.adr i) M1).out fun _ M1 => (f_put (tb 50 5) b (.adr i) M1).out fun _ M2 => .nx (some (.adr i) :: ρ) M2
      simp only [v0]
      rfl
    | a :: b :: c :: r =>
      rw [if_neg (by simp)]
      rfl
theorem as45_ok {a b : VD} {i : Nat} {ρ : Env} {M M1 M2 : Mem} (p4 : f_put (tb 50 4) a (.adr i) M = .ok () M1) (p5 : f_put (tb 50 5) b (.adr i) M1 = .ok () M2) : as45 (.ok [a, b] M) i ρ = .nx ρ M2 := by
  show ((f_put (tb 50 4) a (.adr i) M).out fun _ M1 => (f_put (tb 50 5) b (.adr i) M1).out fun _ M2 => .nx ρ M2) = _
  rw [p4]
  show ((f_put (tb 50 5) b (.adr i) M1).out fun _ M2 => .nx ρ M2) = _
  rw [p5]
  rfl
/-- its fields -/
def grF (t u : List Nat) (ls : List Ln) (start : List Nat) (busy : Bool) (lm : Int) (s : Tree) (B : List Br) (past ahead : List D) : List VD :=
  [.d (bookD t u ls), .d (.str start), .d (.bl busy), .d (.int lm), .d (.lst ((lts none 0 s).map (letD owN))), .d (.lst (B.map (birD owN))), .d (.lst past), .d (.lst ahead)]
structure GwOk (t u : List Nat) (ls : List Ln) (start : List Nat) (s : Tree) (B : List Br) : Prop where
  k : BkOk t u
  hl : ∀ l ∈ ls, LnOk t u l
  T : TOk (wQ ls) start s B
  K : BOk t u B
  r : ∀ x ∈ s.exp, x ∈ t
  n : s.exp.length ≤ 99
  b : B.length ≤ 1000
theorem put_in_ok {M : Mem} {i : Nat} {busy : Bool} {lm : Int} {past ahead : List D} (G : GwOk t u ls start s B) (h : GrAt M i (grF t u ls start busy lm s B past ahead)) {p c : Nat} (hp : p ≤ s.exp.length) (hc : c ∈ u) (hlm : ((putT (wQ ls) (s, B) (p, c)).1.exp.length : Int) ≤ lm ∨ (putT (wQ ls) (s, B) (p, c)) = (s, B)) :
    ∃ w : List Nat, m_Grown_put_in [.adr i, .d (stepD (p, c))] M = .ok (.d (.str w)) (M.set i (grM (grF t u ls start busy lm (putT (wQ ls) (s, B) (p, c)).1 (putT (wQ ls) (s, B) (p, c)).2 past ahead))) ∧
      ((putT (wQ ls) (s, B) (p, c) = (s, B) ∧ w = []) ∨ ∃ a : SlA, s.gaps[p]? = some a ∧ w = wQ ls a.1 c ∧ w ≠ [] ∧ putT (wQ ls) (s, B) (p, c) = (ins (newB (wQ ls) B.length c) s p, B ++ [⟨c, w, a.2, a.1⟩])) := by
  have hlim := lim_eq
  have wb := with_birth_ok G.k G.hl G.T G.r (x := (p, c)) hp hc (by have := G.n; omega) G.b (M := M)
  have hll : (lts none 0 s).length = s.exp.length := lts_len s none 0
  have n1 := is_number_i (p : Int) 0 (s.exp.length : Int) M
  rw [show (decide ((0 : Int) ≤ (p : Int)) && decide ((p : Int) ≤ (s.exp.length : Int))) = true by simp; omega] at n1
  have f0 := h.fld (k := 0) (v := .d (bookD t u ls)) rfl
  have f3 := h.fld (k := 3) (v := .d (.int lm)) rfl
  have f4 := h.fld (k := 4) (v := .d (.lst ((lts none 0 s).map (letD owN)))) rfl
  have f5 := h.fld (k := 5) (v := .d (.lst (B.map (birD owN)))) rfl
  have sd : stepD (p, c) = .tup [.int p, .str [c]] := rfl
  rcases putT_or (W := wQ ls) s B (p, c) with e | ⟨a, ha, hw, e⟩
  · rw [e] at wb ⊢
    refine ⟨[], ?_, .inl ⟨rfl, rfl⟩⟩
    have p4 := h.put (k := 4) (v := .d (.lst ((lts none 0 s).map (letD owN)))) (by simp [grF])
    have p5 := (h.set (gs := (grF t u ls start busy lm s B past ahead).set 4 (.d (.lst ((lts none 0 s).map (letD owN)))))).put (k := 5) (v := .d (.lst (B.map (birD owN)))) (by simp [grF])
    rw [set_set] at p5
    have e5 : ((grF t u ls start busy lm s B past ahead).set 4 (.d (.lst ((lts none 0 s).map (letD owN))))).set 5 (.d (.lst (B.map (birD owN)))) = grF t u ls start busy lm s B past ahead := rfl
    rw [e5] at p5
    have l4 : ((lts none 0 s).map (letD owN)).length = s.exp.length := by simp [hll]
    have stp : stD owN s B = .tup [.lst ((lts none 0 s).map (letD owN)), .lst (B.map (birD owN))] := rfl
    rw [stp] at wb
    have ql : ∀ M : Mem, trim M.length (.ok (.d (.str [])) (M.set i (grM (grF t u ls start busy lm s B past ahead)))) = .ok (.d (.str [])) (M.set i (grM (grF t u ls start busy lm s B past ahead))) := fun M => trim_same (by simp)
    unfold m_Grown_put_in
    rw [fnM_eq]
    unfold b_Grown_put_in
    rw [sd] at wb ⊢
    generalize (lts none 0 s).map (letD owN) = LL at *
    generalize B.map (birD owN) = BB at *
    generalize hM1 : M.set i (grM ((grF t u ls start busy lm s B past ahead).set 4 (.d (.lst LL)))) = M1 at *
    generalize hM2 : M.set i (grM (grF t u ls start busy lm s B past ahead)) = M2 at *
    simp (disch := first | (simp; done) | omega) [ifl, ifL, f0, f3, f4, f5, l4, n1, wb, asg45, as45_ok p4 p5]
    rw [← hM2]
    exact ql M
  · rw [e] at wb hlm ⊢
    have T' : TOk (wQ ls) start (ins (newB (wQ ls) B.length c) s p) (B ++ [⟨c, wQ ls a.1 c, a.2, a.1⟩]) := by
      have := G.T.step (x := (p, c))
      rw [e] at this
      exact this
    refine ⟨wQ ls a.1 c, ?_, .inr ⟨a, ha, rfl, hw, rfl⟩⟩
    have hlm : ((ins (newB (wQ ls) B.length c) s p).exp.length : Int) ≤ lm := by
      rcases hlm with q | q
      · exact q
      · have := congrArg (fun z : Tree × List Br => z.2.length) q
        simp at this
    have hll' : (lts none 0 (ins (newB (wQ ls) B.length c) s p)).length = (ins (newB (wQ ls) B.length c) s p).exp.length := lts_len _ none 0
    generalize hs' : ins (newB (wQ ls) B.length c) s p = s' at *
    have p4 := h.put (k := 4) (v := .d (.lst ((lts none 0 s').map (letD owN)))) (by simp [grF])
    have p5 := (h.set (gs := (grF t u ls start busy lm s B past ahead).set 4 (.d (.lst ((lts none 0 s').map (letD owN)))))).put (k := 5) (v := .d (.lst ((B ++ [(⟨c, wQ ls a.1 c, a.2, a.1⟩ : Br)]).map (birD owN)))) (by simp [grF])
    rw [set_set] at p5
    have e5 : ((grF t u ls start busy lm s B past ahead).set 4 (.d (.lst ((lts none 0 s').map (letD owN))))).set 5 (.d (.lst ((B ++ [(⟨c, wQ ls a.1 c, a.2, a.1⟩ : Br)]).map (birD owN)))) = grF t u ls start busy lm s' (B ++ [⟨c, wQ ls a.1 c, a.2, a.1⟩]) past ahead := rfl
    rw [e5] at p5
    have l4 : ((lts none 0 s).map (letD owN)).length = s.exp.length := by simp [hll]
    have l4' : ((lts none 0 s').map (letD owN)).length = s'.exp.length := by simp [hll']
    have l5 : (B.map (birD owN)).length = B.length := by simp
    have l5' : ((B ++ [(⟨c, wQ ls a.1 c, a.2, a.1⟩ : Br)]).map (birD owN)).length = B.length + 1 := by simp
    have a5 : atI ((B ++ [(⟨c, wQ ls a.1 c, a.2, a.1⟩ : Br)]).map (birD owN)) (-1) = some (.tup [.str [c], .str (wQ ls a.1 c), owN a.2.1, .int a.2.2]) := by
      rw [List.map_append]
      exact atI_snocR
    have stp : stD owN s' (B ++ [⟨c, wQ ls a.1 c, a.2, a.1⟩]) = .tup [.lst ((lts none 0 s').map (letD owN)), .lst ((B ++ [(⟨c, wQ ls a.1 c, a.2, a.1⟩ : Br)]).map (birD owN))] := rfl
    rw [stp] at wb
    have ql : ∀ (x : D) (M : Mem), trim M.length (.ok (.d x) (M.set i (grM (grF t u ls start busy lm s' (B ++ [⟨c, wQ ls a.1 c, a.2, a.1⟩]) past ahead)))) = .ok (.d x) (M.set i (grM (grF t u ls start busy lm s' (B ++ [⟨c, wQ ls a.1 c, a.2, a.1⟩]) past ahead))) := fun x M => trim_same (by simp)
    have hgt : ¬ (lm < (s'.exp.length : Int)) := by omega
    unfold m_Grown_put_in
    rw [fnM_eq]
    unfold b_Grown_put_in
    rw [sd] at wb ⊢
    generalize (lts none 0 s).map (letD owN) = LL at *
    generalize (lts none 0 s').map (letD owN) = LL' at *
    generalize (B ++ [(⟨c, wQ ls a.1 c, a.2, a.1⟩ : Br)]).map (birD owN) = BB' at *
    generalize B.map (birD owN) = BB at *
    generalize hM1 : M.set i (grM ((grF t u ls start busy lm s B past ahead).set 4 (.d (.lst LL')))) = M1 at *
    generalize hM2 : M.set i (grM (grF t u ls start busy lm s' (B ++ [⟨c, wQ ls a.1 c, a.2, a.1⟩]) past ahead)) = M2 at *
    have hpos : ((B.length : Int) < (B.length : Int) + 1) := by omega
    simp (disch := first | (simp; done) | omega) [ifl, ifL, f0, f3, f4, f5, l4, l4', l5, l5', n1, wb, asg45, as45_ok p4 p5, a5, hgt, hpos]
    rw [← hM2]
    exact ql _ M
/-- a step behind -/
def stpD (s : Tree) (B : List Br) : D := .tup [.lst ((lts none 0 s).map (letD owN)), .lst (B.map (birD owN))]
theorem turn_to_ok {M : Mem} {i : Nat} {busy : Bool} {lm : Int} {past ahead : List D} {s' : Tree} {B' : List Br} (h : GrAt M i (grF t u ls start busy lm s B past ahead)) (hne : B'.length ≠ B.length) (hp : past.length ≤ 1000) :
    m_Grown_turn_to [.adr i, .d (.lst ((lts none 0 s').map (letD owN))), .d (.lst (B'.map (birD owN)))] M = .ok (.d .non) (M.set i (grM (grF t u ls start busy lm s' B' (past ++ [stpD s B]) []))) := by
  have hlim := lim_eq
  have f4 := h.fld (k := 4) (v := .d (.lst ((lts none 0 s).map (letD owN)))) rfl
  have f5 := h.fld (k := 5) (v := .d (.lst (B.map (birD owN)))) rfl
  have f6 := h.fld (k := 6) (v := .d (.lst past)) rfl
  have p6 := h.put (k := 6) (v := .d (.lst (past ++ [stpD s B]))) (by simp [grF])
  have p7 := (h.set (gs := (grF t u ls start busy lm s B past ahead).set 6 (.d (.lst (past ++ [stpD s B]))))).put (k := 7) (v := .d (.lst [])) (by simp [grF])
  have p4 := (h.set (gs := ((grF t u ls start busy lm s B past ahead).set 6 (.d (.lst (past ++ [stpD s B])))).set 7 (.d (.lst [])))).put (k := 4) (v := .d (.lst ((lts none 0 s').map (letD owN)))) (by simp [grF])
  have p5 := (h.set (gs := (((grF t u ls start busy lm s B past ahead).set 6 (.d (.lst (past ++ [stpD s B])))).set 7 (.d (.lst []))).set 4 (.d (.lst ((lts none 0 s').map (letD owN)))))).put (k := 5) (v := .d (.lst (B'.map (birD owN)))) (by simp [grF])
  rw [set_set] at p7 p4 p5
  have l5 : (B.map (birD owN)).length = B.length := by simp
  have l5' : (B'.map (birD owN)).length = B'.length := by simp
  have st : stpD s B = .tup [.lst ((lts none 0 s).map (letD owN)), .lst (B.map (birD owN))] := rfl
  have eF : ((((grF t u ls start busy lm s B past ahead).set 6 (.d (.lst (past ++ [stpD s B])))).set 7 (.d (.lst []))).set 4 (.d (.lst ((lts none 0 s').map (letD owN))))).set 5 (.d (.lst (B'.map (birD owN)))) = grF t u ls start busy lm s' B' (past ++ [stpD s B]) [] := rfl
  rw [eF] at p5
  have ne : ((B'.length : Int) == (B.length : Int)) = false := by simp; omega
  have ne2 : D.eqv (.int (B'.length : Int)) (.int (B.length : Int)) = false := by simp [D.eqv]; omega
  have ql : ∀ M : Mem, trim M.length (.ok (.d .non) (M.set i (grM (grF t u ls start busy lm s' B' (past ++ [stpD s B]) [])))) = .ok (.d .non) (M.set i (grM (grF t u ls start busy lm s' B' (past ++ [stpD s B]) []))) := fun M => trim_same (by simp)
  unfold m_Grown_turn_to
  rw [fnM_eq]
  unfold b_Grown_turn_to
  rw [st] at p6 p7 p4 p5 ql ⊢
  generalize (lts none 0 s).map (letD owN) = LL at *
  generalize (lts none 0 s').map (letD owN) = LL' at *
  generalize B.map (birD owN) = BB at *
  generalize B'.map (birD owN) = BB' at *
  generalize hM1 : M.set i (grM ((grF t u ls start busy lm s B past ahead).set 6 (.d (.lst (past ++ [.tup [.lst LL, .lst BB]]))))) = M1 at *
  generalize hM2 : M.set i (grM (((grF t u ls start busy lm s B past ahead).set 6 (.d (.lst (past ++ [.tup [.lst LL, .lst BB]])))).set 7 (.d (.lst [])))) = M2 at *
  generalize hM3 : M.set i (grM ((((grF t u ls start busy lm s B past ahead).set 6 (.d (.lst (past ++ [.tup [.lst LL, .lst BB]])))).set 7 (.d (.lst []))).set 4 (.d (.lst LL')))) = M3 at *
  generalize hM4 : M.set i (grM (grF t u ls start busy lm s' B' (past ++ [.tup [.lst LL, .lst BB]]) [])) = M4 at *
  simp (disch := first | (simp; done) | omega) [ifl, ifL, f4, f5, f6, l5, l5', ne, ne2, hne, p6, p7, p4, p5]
  rw [← hM4]
  exact ql M
theorem turn_same {M : Mem} {i : Nat} {busy : Bool} {lm : Int} {past ahead : List D} {s' : Tree} {B' : List Br} (h : GrAt M i (grF t u ls start busy lm s B past ahead)) (he : B'.length = B.length) :
    m_Grown_turn_to [.adr i, .d (.lst ((lts none 0 s').map (letD owN))), .d (.lst (B'.map (birD owN)))] M = .ok (.d .non) M := by
  have f5 := h.fld (k := 5) (v := .d (.lst (B.map (birD owN)))) rfl
  have l5 : (B.map (birD owN)).length = B.length := by simp
  have l5' : (B'.map (birD owN)).length = B'.length := by simp
  unfold m_Grown_turn_to
  rw [fnM_eq]
  unfold b_Grown_turn_to
  generalize (lts none 0 s').map (letD owN) = LL' at *
  generalize B.map (birD owN) = BB at *
  generalize B'.map (birD owN) = BB' at *
  simp (disch := first | (simp; done) | omega) [ifl, ifL, f5, l5, l5', he, D.eqv]
noncomputable def paC : Sx := (s_seq (s_if (e_orT (e_notT (e_truth (e_isi .tuple (e_var 3)))) (e_asB (e_op f_ne (e_bi f_len (a_cons (e_var 3) a_nil)) (e_c (.int 2))))) s_fail s_skip)
    (s_if (e_orT (e_notT (e_truth (e_call 3 m_is_number (a_cons (e_op f_ix (e_var 3) (e_c (.int 0))) (a_cons (e_c (.int 0)) (a_cons (e_c (.int 99)) a_nil)))))) (e_notT (e_truth (e_call 2 m_is_one (a_cons (e_op f_ix (e_var 3) (e_c (.int 1))) (a_cons (e_fld (tb 0 1) (e_fld (tb 50 0) (e_var 0))) a_nil)))))) s_fail s_skip))
noncomputable def paI : Sx := (s_expr (e_app (e_var 6) (e_meth 50 (ar 2 m_Grown_put_in) (e_var 0) (a_cons (e_var 3) a_nil))))
noncomputable def paT : Sx := s_tupV 4 (a_cons (e_fld (tb 50 4) (e_var 0)) (a_cons (e_fld (tb 50 5) (e_var 0)) (a_cons (e_lstO a_nil) (a_cons (e_c (.bl false)) a_nil)))) (g_cons (g_name 4) (g_cons (g_name 5) (g_cons (g_name 6) (g_cons (g_name 7) g_nil))))
noncomputable def paF : Sx := (s_seq (s_par 8 9 (a_cons (e_fld (tb 50 4) (e_var 0)) (a_cons (e_fld (tb 50 5) (e_var 0)) a_nil)))
    (s_seq (s_asgA 2 (a_cons (e_var 4) (a_cons (e_var 5) a_nil)) (ga_fld (tb 50 4) (e_var 0) (ga_fld (tb 50 5) (e_var 0) ga_nil)))
    (s_fld (tb 50 2) (e_c (.bl false)) (e_var 0))))
theorem pa_eq : b_Grown_put_all = (s_seq (s_for (i_enumA (a_cons (e_var 1) a_nil)) (g_tup 2 (g_cons (g_name 2) (g_cons (g_name 3) g_nil))) paC)
    (s_seq paT
    (s_seq (s_fld (tb 50 2) (e_c (.bl true)) (e_var 0))
    (s_seq (s_tryF (s_seq (s_for (i_any (e_var 1)) (g_name 3) paI) (s_asg (e_c (.bl true)) (g_name 7))) paF)
    (s_seq (s_if (e_truth (e_var 7)) (s_expr (e_meth 50 (ar 3 m_Grown_turn_to) (e_var 0) (a_cons (e_var 8) (a_cons (e_var 9) a_nil)))) s_skip)
    (s_frz 6 (s_ret (e_var 6)))))))) := rfl
def tryK (o : Out) (f : Sx) : Out := match o with
  | .nx ρ1 M1 => f ρ1 M1
  | .exc c fs M1 => .exc c fs M1
  | _ => .fail
theorem tryF_eq {b f : Sx} {ρ : Env} {M : Mem} : s_tryF b f ρ M = tryK (b ρ M) f := nrfl rfl
@[simp] theorem tryK_nx {f : Sx} {ρ : Env} {M : Mem} : tryK (.nx ρ M) f = f ρ M := nrfl rfl
/-- put_all of one step -/
theorem put_one {M : Mem} (hM : Lst M) {i : Nat} {lm : Int} {past ahead : List D} (G : GwOk t u ls start s B) (h : GrAt M i (grF t u ls start false lm s B past ahead)) {p c : Nat} (hp : p ≤ s.exp.length) (hc : c ∈ u) (hps : past.length ≤ 1000) (hlm : ((putT (wQ ls) (s, B) (p, c)).1.exp.length : Int) ≤ lm ∨ (putT (wQ ls) (s, B) (p, c)) = (s, B)) :
    ∃ (w : List Nat) (past' ahead' : List D), m_Grown_put_all [.adr i, .d (.tup [stepD (p, c)])] M = .ok (.d (.lst [.str w])) (M.set i (grM (grF t u ls start false lm (putT (wQ ls) (s, B) (p, c)).1 (putT (wQ ls) (s, B) (p, c)).2 past' ahead'))) ∧ past'.length ≤ past.length + 1 ∧
      ((putT (wQ ls) (s, B) (p, c) = (s, B) ∧ w = []) ∨ ∃ a : SlA, s.gaps[p]? = some a ∧ w = wQ ls a.1 c ∧ w ≠ [] ∧ putT (wQ ls) (s, B) (p, c) = (ins (newB (wQ ls) B.length c) s p, B ++ [⟨c, w, a.2, a.1⟩])) := by
  have hlim := lim_eq
  have hn := G.n
  have hil := h.lt
  -- the checks
  have n1 := is_number_i (p : Int) 0 99 M
  rw [show (decide ((0 : Int) ≤ (p : Int)) && decide ((p : Int) ≤ 99)) = true by simp; omega] at n1
  have o1 := is_one_c (c := c) (u := u) (M := M)
  rw [show decide (c ∈ u) = true by simpa using hc] at o1
  have f0 := h.fld (k := 0) (v := .d (bookD t u ls)) rfl
  have f4 := h.fld (k := 4) (v := .d (.lst ((lts none 0 s).map (letD owN)))) rfl
  have f5 := h.fld (k := 5) (v := .d (.lst (B.map (birD owN)))) rfl
  have fb : ∀ M, f_fld (tb 0 1) (.d (bookD t u ls)) M = .ok (.d (.str u)) M := fun M => by simp [bookD]
  have sd : stepD (p, c) = .tup [.int p, .str [c]] := rfl
  have cC : ∀ x4 x5 x6 x7 x8 x9 : Option VD, paC [some (.adr i), some (.d (.tup [stepD (p, c)])), some (.d (.int 0)), some (.d (stepD (p, c))), x4, x5, x6, x7, x8, x9] M = .nx [some (.adr i), some (.d (.tup [stepD (p, c)])), some (.d (.int 0)), some (.d (stepD (p, c))), x4, x5, x6, x7, x8, x9] M := fun x4 x5 x6 x7 x8 x9 => by
    unfold paC
    rw [sd]
    simp (disch := first | (simp; done) | omega) [ifl, ifL, n1, o1, f0, fb, D.eqv]
  -- the memory behind
  have h0 := h.app [.lst []]
  have pb := h0.put (k := 2) (v := .d (.bl true)) (by simp [grF])
  rw [h.set_app] at pb
  have eb : (grF t u ls start false lm s B past ahead).set 2 (.d (.bl true)) = grF t u ls start true lm s B past ahead := rfl
  rw [eb] at pb
  have h1 : GrAt (M.set i (grM (grF t u ls start true lm s B past ahead)) ++ [.lst []]) i (grF t u ls start true lm s B past ahead) := (h.set).app _
  obtain ⟨w, ew, hw⟩ := put_in_ok G h1 hp hc hlm
  generalize hP : putT (wQ ls) (s, B) (p, c) = P at *
  obtain ⟨s', B'⟩ := P
  dsimp only at ew hw
  rw [h.set.set_app, set_set] at ew
  have h2 : GrAt (M.set i (grM (grF t u ls start true lm s' B' past ahead)) ++ [.lst [.str w]]) i (grF t u ls start true lm s' B' past ahead) := (h.set).app _
  have g4 := h2.fld (k := 4) (v := .d (.lst ((lts none 0 s').map (letD owN)))) rfl
  have g5 := h2.fld (k := 5) (v := .d (.lst (B'.map (birD owN)))) rfl
  have p4 := h2.put (k := 4) (v := .d (.lst ((lts none 0 s).map (letD owN)))) (by simp [grF])
  rw [h.set.set_app, set_set] at p4
  have h3 : GrAt (M.set i (grM ((grF t u ls start true lm s' B' past ahead).set 4 (.d (.lst ((lts none 0 s).map (letD owN)))))) ++ [.lst [.str w]]) i ((grF t u ls start true lm s' B' past ahead).set 4 (.d (.lst ((lts none 0 s).map (letD owN))))) := (h.set).app _
  have p5 := h3.put (k := 5) (v := .d (.lst (B.map (birD owN)))) (by simp [grF])
  rw [h.set.set_app, set_set] at p5
  have e5 : ((grF t u ls start true lm s' B' past ahead).set 4 (.d (.lst ((lts none 0 s).map (letD owN))))).set 5 (.d (.lst (B.map (birD owN)))) = grF t u ls start true lm s B past ahead := rfl
  rw [e5] at p5
  have h4 : GrAt (M.set i (grM (grF t u ls start true lm s B past ahead)) ++ [.lst [.str w]]) i (grF t u ls start true lm s B past ahead) := (h.set).app _
  have pb2 := h4.put (k := 2) (v := .d (.bl false)) (by simp [grF])
  rw [h.set.set_app, set_set] at pb2
  have eb2 : (grF t u ls start true lm s B past ahead).set 2 (.d (.bl false)) = grF t u ls start false lm s B past ahead := rfl
  rw [eb2] at pb2
  have h5 : GrAt (M.set i (grM (grF t u ls start false lm s B past ahead)) ++ [.lst [.str w]]) i (grF t u ls start false lm s B past ahead) := (h.set).app _
  -- the turn
  obtain ⟨past', ahead', et, hpa⟩ : ∃ past' ahead', m_Grown_turn_to [.adr i, .d (.lst ((lts none 0 s').map (letD owN))), .d (.lst (B'.map (birD owN)))] (M.set i (grM (grF t u ls start false lm s B past ahead)) ++ [.lst [.str w]]) = .ok (.d .non) (M.set i (grM (grF t u ls start false lm s' B' past' ahead')) ++ [.lst [.str w]]) ∧ past'.length ≤ past.length + 1 := by
    rcases hw with ⟨e, _⟩ | ⟨a, _, _, _, e⟩
    · cases e
      exact ⟨past, ahead, turn_same h5 rfl, by omega⟩
    · cases e
      refine ⟨past ++ [stpD s B], [], ?_, by simp⟩
      have q := turn_to_ok (s' := ins (newB (wQ ls) B.length c) s p) (B' := B ++ [⟨c, w, a.2, a.1⟩]) h5 (by simp) hps
      rw [h.set.set_app, set_set] at q
      exact q
  refine ⟨w, past', ahead', ?_, hpa, hw⟩
  have is1 := h1.isC
  have is5 := h5.isC
  have tT : ∀ x2 x3 x8 x9 : Option VD, paT [some (.adr i), some (.d (.tup [stepD (p, c)])), x2, x3, none, none, none, none, x8, x9] M = .nx [some (.adr i), some (.d (.tup [stepD (p, c)])), x2, x3, some (.d (.lst ((lts none 0 s).map (letD owN)))), some (.d (.lst (B.map (birD owN)))), some (.adr M.length), some (.d (.bl false)), x8, x9] (M ++ [.lst []]) := fun x2 x3 x8 x9 => by
    unfold paT s_tupV
    have ea : a_cons (e_fld (tb 50 4) (e_var 0)) (a_cons (e_fld (tb 50 5) (e_var 0)) (a_cons (e_lstO a_nil) (a_cons (e_c (.bl false)) a_nil))) [some (.adr i), some (.d (.tup [stepD (p, c)])), x2, x3, none, none, none, none, x8, x9] M = .ok [.d (.lst ((lts none 0 s).map (letD owN))), .d (.lst (B.map (birD owN))), .adr M.length, .d (.bl false)] (M ++ [.lst []]) := by
      generalize (lts none 0 s).map (letD owN) = LL at *
      generalize B.map (birD owN) = BB at *
      simp [f4, f5]
    rw [ea]
    simp [Res.out, show (4 : Nat) ≤ lim by omega]
  have hls : ∀ (X : MO) (Y : MO), (M.set i X ++ [Y])[M.length]? = some Y := fun X Y => by
    rw [List.getElem?_append_right (by simp)]
    simp
  have hl1 : ∀ (X : MO) (Y Z : MO), (M.set i X ++ [Y]).set M.length Z = M.set i X ++ [Z] := fun X Y Z => by
    rw [List.set_append_right _ _ (by simp)]
    simp
  have iI : ∀ x2 x4 x5 x7 x8 x9 : Option VD, paI [some (.adr i), some (.d (.tup [stepD (p, c)])), x2, some (.d (stepD (p, c))), x4, x5, some (.adr M.length), x7, x8, x9] (M.set i (grM (grF t u ls start true lm s B past ahead)) ++ [.lst []]) = .nx [some (.adr i), some (.d (.tup [stepD (p, c)])), x2, some (.d (stepD (p, c))), x4, x5, some (.adr M.length), x7, x8, x9] (M.set i (grM (grF t u ls start true lm s' B' past ahead)) ++ [.lst [.str w]]) := fun x2 x4 x5 x7 x8 x9 => by
    unfold paI
    rw [sd] at ew ⊢
    generalize grM (grF t u ls start true lm s B past ahead) = G1 at *
    generalize grM (grF t u ls start true lm s' B' past ahead) = G2 at *
    simp (disch := first | (simp; done) | omega) [ifl, ifL, is1, ew, hls, hl1]
  have fF : ∀ x2 x3 x8 x9 : Option VD, paF [some (.adr i), some (.d (.tup [stepD (p, c)])), x2, x3, some (.d (.lst ((lts none 0 s).map (letD owN)))), some (.d (.lst (B.map (birD owN)))), some (.adr M.length), some (.d (.bl true)), x8, x9] (M.set i (grM (grF t u ls start true lm s' B' past ahead)) ++ [.lst [.str w]]) = .nx [some (.adr i), some (.d (.tup [stepD (p, c)])), x2, x3, some (.d (.lst ((lts none 0 s).map (letD owN)))), some (.d (.lst (B.map (birD owN)))), some (.adr M.length), some (.d (.bl true)), some (.d (.lst ((lts none 0 s').map (letD owN)))), some (.d (.lst (B'.map (birD owN))))] (M.set i (grM (grF t u ls start false lm s B past ahead)) ++ [.lst [.str w]]) := fun x2 x3 x8 x9 => by
    unfold paF
    generalize (lts none 0 s).map (letD owN) = LL at *
    generalize (lts none 0 s').map (letD owN) = LL' at *
    generalize B.map (birD owN) = BB at *
    generalize B'.map (birD owN) = BB' at *
    generalize hN2 : M.set i (grM (grF t u ls start true lm s' B' past ahead)) ++ [.lst [.str w]] = N2 at *
    generalize hN4 : M.set i (grM (grF t u ls start true lm s B past ahead)) ++ [.lst [.str w]] = N4 at *
    generalize hN5 : M.set i (grM (grF t u ls start false lm s B past ahead)) ++ [.lst [.str w]] = N5 at *
    simp (disch := first | (simp; done) | omega) [ifl, ifL, g4, g5, asg45, as45_ok p4 p5, pb2]
  have hfz : ∀ X : MO, frzM (some (.lst [.str w])) 6 M.length [some (.adr i), some (.d (.tup [stepD (p, c)])), some (.d (.int 0)), some (.d (stepD (p, c))), some (.d (.lst ((lts none 0 s).map (letD owN)))), some (.d (.lst (B.map (birD owN)))), some (.adr M.length), some (.d (.bl true)), some (.d (.lst ((lts none 0 s').map (letD owN)))), some (.d (.lst (B'.map (birD owN))))] (M.set i X ++ [.lst [.str w]]) = some ([some (.adr i), some (.d (.tup [stepD (p, c)])), some (.d (.int 0)), some (.d (stepD (p, c))), some (.d (.lst ((lts none 0 s).map (letD owN)))), some (.d (.lst (B.map (birD owN)))), some (.d (.lst [.str w])), some (.d (.bl true)), some (.d (.lst ((lts none 0 s').map (letD owN)))), some (.d (.lst (B'.map (birD owN))))], M.set i X ++ [.dead]) := fun X => by
    simp [frzM, hl1]
  have lstX : Lst (M.set i (grM (grF t u ls start false lm s' B' past' ahead'))) := fun m hm => by
    rcases List.mem_or_eq_of_mem_set hm with hm | rfl
    · rw [List.length_set]
      exact hM m hm
    · rfl
  have tr := trimL (x := .lst [.str w]) (l := [.dead]) lstX
  rw [List.length_set] at tr
  unfold m_Grown_put_all
  rw [fnM_eq, pa_eq]
  have dsp : (s', B').1 = s' ∧ (s', B').2 = B' := ⟨rfl, rfl⟩
  generalize (lts none 0 s).map (letD owN) = LL at *
  generalize (lts none 0 s').map (letD owN) = LL' at *
  generalize B.map (birD owN) = BB at *
  generalize B'.map (birD owN) = BB' at *
  generalize grM (grF t u ls start true lm s B past ahead) = GT at *
  generalize grM (grF t u ls start true lm s' B' past ahead) = GT' at *
  generalize grM (grF t u ls start false lm s B past ahead) = GF at *
  generalize grM (grF t u ls start false lm s' B' past' ahead') = GF' at *
  generalize stepD (p, c) = SD at *
  generalize paC = PC at *
  generalize paI = PI at *
  generalize paT = PT at *
  generalize paF = PF at *
  simp (disch := first | (simp; done) | omega) [ifl, ifL, enumL, forL_cons, cC, tT, pb, tryF_eq, iI, fF, is5, et, hls, hfz]
  exact tr
theorem put_ok {M : Mem} (hM : Lst M) {i : Nat} {lm : Int} {past ahead : List D} (G : GwOk t u ls start s B) (h : GrAt M i (grF t u ls start false lm s B past ahead)) {p c : Nat} (hp : p ≤ s.exp.length) (hc : c ∈ u) (hps : past.length ≤ 1000) (hlm : ((putT (wQ ls) (s, B) (p, c)).1.exp.length : Int) ≤ lm ∨ (putT (wQ ls) (s, B) (p, c)) = (s, B)) :
    ∃ (w : List Nat) (past' ahead' : List D), m_Grown_put [.adr i, .d (.int p), .d (.str [c])] M = .ok (.d (.str w)) (M.set i (grM (grF t u ls start false lm (putT (wQ ls) (s, B) (p, c)).1 (putT (wQ ls) (s, B) (p, c)).2 past' ahead'))) ∧ past'.length ≤ past.length + 1 ∧
      ((putT (wQ ls) (s, B) (p, c) = (s, B) ∧ w = []) ∨ ∃ a : SlA, s.gaps[p]? = some a ∧ w = wQ ls a.1 c ∧ w ≠ [] ∧ putT (wQ ls) (s, B) (p, c) = (ins (newB (wQ ls) B.length c) s p, B ++ [⟨c, w, a.2, a.1⟩])) := by
  have hlim := lim_eq
  obtain ⟨w, past', ahead', e, h1, h2⟩ := put_one hM G h hp hc hps hlm
  refine ⟨w, past', ahead', ?_, h1, h2⟩
  have hll : (lts none 0 s).length = s.exp.length := lts_len s none 0
  have n1 := is_number_i (p : Int) 0 (s.exp.length : Int) M
  rw [show (decide ((0 : Int) ≤ (p : Int)) && decide ((p : Int) ≤ (s.exp.length : Int))) = true by simp; omega] at n1
  have o1 := is_one_c (c := c) (u := u) (M := M)
  rw [show decide (c ∈ u) = true by simpa using hc] at o1
  have f0 := h.fld (k := 0) (v := .d (bookD t u ls)) rfl
  have f4 := h.fld (k := 4) (v := .d (.lst ((lts none 0 s).map (letD owN)))) rfl
  have fb : ∀ M, f_fld (tb 0 1) (.d (bookD t u ls)) M = .ok (.d (.str u)) M := fun M => by simp [bookD]
  have l4 : ((lts none 0 s).map (letD owN)).length = s.exp.length := by simp [hll]
  have is := h.isC
  have ea : p_Grown_put_all [.adr i, .d (stepD (p, c))] M = m_Grown_put_all [.adr i, .d (.tup [stepD (p, c)])] M := by
    unfold p_Grown_put_all arS
    rw [if_pos (by simp)]
    have hd : dats [.d (stepD (p, c))] = some [stepD (p, c)] := rfl
    show (match dats [VD.d (stepD (p, c))] with | some rest => if rest.length ≤ lim then m_Grown_put_all ([VD.adr i] ++ [VD.d (.tup rest)]) M else Res.fail | none => Res.fail) = _
    rw [hd]
    simp only
    rw [if_pos (by simp; omega)]
    rfl
  rw [e] at ea
  have sd : stepD (p, c) = .tup [.int p, .str [c]] := rfl
  rw [sd] at ea
  have ql : ∀ (x : D) (M : Mem) (X : MO), trim M.length (.ok (.d x) (M.set i X)) = .ok (.d x) (M.set i X) := fun x M X => trim_same (by simp)
  unfold m_Grown_put
  rw [fnM_eq]
  unfold b_Grown_put
  generalize (lts none 0 s).map (letD owN) = LL at *
  generalize grM (grF t u ls start false lm (putT (wQ ls) (s, B) (p, c)).1 (putT (wQ ls) (s, B) (p, c)).2 past' ahead') = GF' at *
  simp (disch := first | (simp; done) | omega) [ifl, ifL, n1, o1, f0, f4, fb, l4, is, ea]
  exact ql _ M _
end
end G
namespace G
open Sg
open L2 (atI)
section
variable {t u : List Nat} {ls : List Ln} {start : List Nat} {s : Tree} {B : List Br}
theorem lts_start (start : List Nat) : lts none 0 (fresh none 0 60 start 62) = startL start := by
  rw [fresh_lts0]
  unfold startL
  congr 1
  funext i k
  rw [Nat.zero_add]
theorem gr_put0 {M : Mem} {k : Nat} {fs : List VD} {v : VD} (h : fs.length = k) : f_put (tb 50 k) v (.adr M.length) (M ++ [grM fs]) = .ok () (M ++ [grM (fs ++ [v])]) := by
  have hg : (M ++ [grM fs])[M.length]? = some (grM fs) := by simp
  unfold f_put
  unfold grM at hg ⊢
  simp only [hg]
  have e : tb 50 k 50 = some k := by simp [tb]
  rw [e]
  simp only
  rw [if_pos (by omega), if_neg (by omega), List.set_append_right _ _ (Nat.le_refl _)]
  simp
theorem gr_initL {lm : Int} (h16 : 16 ≤ lm) (h99 : lm ≤ 99) (hr : ∀ x ∈ start, x ∈ t) (hn : start.length ≤ 16) {M : Mem} : m_Grown___init__ [.adr M.length, .d (bookD t u ls), .d (.str start), .d (.int lm)] (M ++ [grM []]) = .ok (.d .non) (M ++ [grM (grF t u ls start false lm (fresh none 0 60 start 62) [] [] [])]) := by
  have hlim := lim_eq
  have r0 := is_row_okS hr hn (M := M ++ [grM []])
  have m2 : ∀ M : Mem, f_max2 [.d (.int 1), .d (.int (start.length : Int))] M = .ok (.d (.int (mx 1 start.length))) M := fun M => max2
  have n1 := is_number_i lm (mx 1 start.length) 99 (M ++ [grM []])
  rw [show (decide (mx 1 (start.length : Int) ≤ lm) && decide (lm ≤ 99)) = true by unfold mx; simp; split <;> omega] at n1
  have fb : ∀ M, f_fld (tb 0 0) (.d (bookD t u ls)) M = .ok (.d (.str t)) M := fun M => fld_book0
  have lo : ∀ M, m_letters_of [.d (.str start)] M = .ok (.d (.lst ((startL start).map (letD owN)))) M := fun M => letters_of_ok (by omega)
  have q0 := gr_put0 (M := M) (k := 0) (fs := []) (v := .d (bookD t u ls)) rfl
  have q1 := gr_put0 (M := M) (k := 1) (fs := [.d (bookD t u ls)]) (v := .d (.str start)) rfl
  have q2 := gr_put0 (M := M) (k := 2) (fs := [.d (bookD t u ls), .d (.str start)]) (v := .d (.bl false)) rfl
  have q3 := gr_put0 (M := M) (k := 3) (fs := [.d (bookD t u ls), .d (.str start), .d (.bl false)]) (v := .d (.int lm)) rfl
  have q4 := gr_put0 (M := M) (k := 4) (fs := [.d (bookD t u ls), .d (.str start), .d (.bl false), .d (.int lm)]) (v := .d (.lst ((startL start).map (letD owN)))) rfl
  have q5 := gr_put0 (M := M) (k := 5) (fs := [.d (bookD t u ls), .d (.str start), .d (.bl false), .d (.int lm), .d (.lst ((startL start).map (letD owN)))]) (v := .d (.lst [])) rfl
  have q6 := gr_put0 (M := M) (k := 6) (fs := [.d (bookD t u ls), .d (.str start), .d (.bl false), .d (.int lm), .d (.lst ((startL start).map (letD owN))), .d (.lst [])]) (v := .d (.lst [])) rfl
  have q7 := gr_put0 (M := M) (k := 7) (fs := [.d (bookD t u ls), .d (.str start), .d (.bl false), .d (.int lm), .d (.lst ((startL start).map (letD owN))), .d (.lst []), .d (.lst [])]) (v := .d (.lst [])) rfl
  have eF : grF t u ls start false lm (fresh none 0 60 start 62) [] [] [] = [.d (bookD t u ls), .d (.str start), .d (.bl false), .d (.int lm), .d (.lst ((startL start).map (letD owN))), .d (.lst []), .d (.lst []), .d (.lst [])] := by
    unfold grF
    rw [lts_start]
    rfl
  rw [eF]
  simp only [List.nil_append, List.cons_append] at q0 q1 q2 q3 q4 q5 q6 q7
  unfold m_Grown___init__
  rw [fnM_eq]
  unfold b_Grown___init__
  generalize (startL start).map (letD owN) = LL at *
  generalize bookD t u ls = BK at *
  generalize mx 1 (start.length : Int) = MX at *
  generalize M ++ [grM [.d BK]] = N1 at *
  generalize M ++ [grM [.d BK, .d (.str start)]] = N2 at *
  generalize M ++ [grM [.d BK, .d (.str start), .d (.bl false)]] = N3 at *
  generalize M ++ [grM [.d BK, .d (.str start), .d (.bl false), .d (.int lm)]] = N4 at *
  generalize M ++ [grM [.d BK, .d (.str start), .d (.bl false), .d (.int lm), .d (.lst LL)]] = N5 at *
  generalize M ++ [grM [.d BK, .d (.str start), .d (.bl false), .d (.int lm), .d (.lst LL), .d (.lst [])]] = N6 at *
  generalize M ++ [grM [.d BK, .d (.str start), .d (.bl false), .d (.int lm), .d (.lst LL), .d (.lst []), .d (.lst [])]] = N7 at *
  generalize hN8 : M ++ [grM [.d BK, .d (.str start), .d (.bl false), .d (.int lm), .d (.lst LL), .d (.lst []), .d (.lst []), .d (.lst [])]] = N8 at *
  generalize hN0 : M ++ [grM []] = N0 at *
  simp (disch := first | (simp; done) | omega) [ifl, ifL, r0, m2, n1, fb, lo, q0, q1, q2, q3, q4, q5, q6, q7]
  rw [← hN0, ← hN8]
  exact trim_same (by simp)
theorem gr_init (hr : ∀ x ∈ start, x ∈ t) (hn : start.length ≤ 16) {M : Mem} : m_Grown___init__ [.adr M.length, .d (bookD t u ls), .d (.str start), .d (.int 60)] (M ++ [grM []]) = .ok (.d .non) (M ++ [grM (grF t u ls start false 60 (fresh none 0 60 start 62) [] [] [])]) := gr_initL (by decide) (by decide) hr hn
def makeOK (c : Nat) (m : List VD → Mem → Res VD) (vs : List VD) (M1 : Mem) : Res VD := (mkI c m vs M1).bind fun _ M2 => .ok (.adr M1.length) M2
def makeOR (c : Nat) (m : List VD → Mem → Res VD) (r : Res (List VD)) : Res VD := r.bind fun vs M1 => makeOK c m vs M1
theorem e_makeO_eq {c m ms ρ M} : e_makeO c m ms ρ M = makeOR c m (ms ρ M) := nrfl rfl
@[simp] theorem makeOR_ok {c m vs M} : makeOR c m (.ok vs M) = makeOK c m vs M := nrfl rfl
/-- Grown(book, start) -/
theorem gr_make (hr : ∀ x ∈ start, x ∈ t) (hn : start.length ≤ 16) {M : Mem} : makeOK 50 (arD 4 [.int 60] m_Grown___init__) [.d (bookD t u ls), .d (.str start)] M = .ok (.adr M.length) (M ++ [grM (grF t u ls start false 60 (fresh none 0 60 start 62) [] [] [])]) := by
  have e := gr_init (t := t) (u := u) (ls := ls) hr hn (M := M)
  unfold makeOK mkI
  have ea : arD 4 [.int 60] m_Grown___init__ [.adr M.length, .d (bookD t u ls), .d (.str start)] (M ++ [.ins 50 []]) = m_Grown___init__ [.adr M.length, .d (bookD t u ls), .d (.str start), .d (.int 60)] (M ++ [grM []]) := by
    exact if_pos rfl
  rw [ea, e]
  rfl
end
end G
namespace G
open Sg
open L2 (atI)
section
variable {t u : List Nat} {ls : List Ln} {start : List Nat} {s : Tree} {B : List Br}
theorem GwOk.step (G : GwOk t u ls start s B) {x : Nat × Nat} (hp : x.1 ≤ s.exp.length) (hc : x.2 ∈ u) (hn : (putT (wQ ls) (s, B) x).1.exp.length ≤ 99) (hb : B.length < 1000) : GwOk t u ls start (putT (wQ ls) (s, B) x).1 (putT (wQ ls) (s, B) x).2 :=
  ⟨G.k, G.hl, G.T.step, BOk.step G.hl G.T G.r hp hc G.K, by rw [putT_exp G.T hp]; exact behR_sub G.hl G.r _ _, hn, by have := step_B (W := wQ ls) (s := s) (B := B) (x := x); omega⟩
theorem gw_start (k : BkOk t u) (hl : ∀ l ∈ ls, LnOk t u l) (hr : ∀ x ∈ start, x ∈ t) (hn : start.length ≤ 16) : GwOk t u ls start (fresh none 0 60 start 62) [] :=
  ⟨k, hl, tOk_start start, ⟨fun b hb => by simp at hb, fun b hb => by simp at hb, fun b hb => by simp at hb⟩, by rw [fresh_exp]; exact hr, by rw [fresh_exp]; omega, by simp⟩
end
end G
namespace G
open Sg
def lowN (n k : Nat) : Nat := if n < k then k - 1 else k
def lowL (n : Nat) (x : Lt) : Lt := (x.1, x.2.1.map (lowN n), x.2.2)
def lowB (n : Nat) (b : Br) : Br := ⟨b.c, b.w, (b.h.1.map (lowN n), b.h.2), b.g⟩
section
variable {t u : List Nat} {ls : List Ln} {start : List Nat} {s1 : Tree} {B1 : List Br}
theorem low_lts {n m : Nat} (hn : n < m) : ∀ L : List Lt, (∀ x ∈ L, ∀ o, x.2.1 = some o → o < m) → L.filterMap (rnF (allBut n m)) = (L.filter fun x => decide (x.2.1 ≠ some n)).map (lowL n)
  | [], _ => rfl
  | x :: L, h => by
    have ih := low_lts hn L fun y hy => h y (List.mem_cons_of_mem _ hy)
    obtain ⟨c, o, j⟩ := x
    cases o with
    | none =>
      rw [List.filter_cons_of_pos (by simp), List.map_cons, ← ih]
      rfl
    | some k =>
      have hk := h (c, some k, j) List.mem_cons_self k rfl
      by_cases e : k = n
      · subst e
        rw [List.filter_cons_of_neg (by simp), ← ih, List.filterMap_cons_none]
        show (if k ∈ allBut k m then _ else none) = none
        rw [if_neg (fun z => ((mem_allBut hn).mp z).2 rfl)]
      · rw [List.filter_cons_of_pos (by simpa using e), List.map_cons, ← ih]
        refine List.filterMap_cons_some ?_
        show (if k ∈ allBut n m then some (c, some ((allBut n m).idxOf k), j) else none) = some (c, some (lowN n k), j)
        rw [if_pos ((mem_allBut hn).mpr ⟨hk, e⟩), allBut_idx hn hk e]
        rfl
theorem low_births {W : Gp → Nat → List Nat} (T1 : TOk W start s1 B1) {n : Nat} (hn : n < B1.length) (hl : ∀ b ∈ B1, b.h.1 ≠ some n) {B2 : List Br} (I : Iso B1 B2 (allBut n B1.length)) : B2 = (B1.map (lowB n)).take n ++ (B1.map (lowB n)).drop (n + 1) := by
  have e := iso_births I
  have key : ∀ k, k < B1.length → k ≠ n → (B1[k]?).map (rnB (allBut n B1.length)) = (B1[k]?).map (lowB n) := fun k hk hne => by
    obtain ⟨b, hb⟩ : ∃ b, B1[k]? = some b := ⟨_, List.getElem?_eq_getElem hk⟩
    rw [hb]
    show some (rnB _ b) = some (lowB n b)
    congr 1
    unfold rnB lowB homeN
    cases q : b.h.1 with
    | none => rfl
    | some o =>
      have lo := T1.bown k b hb o q
      have no : o ≠ n := fun z => hl b (List.mem_of_getElem? hb) (by rw [q, z])
      simp only [Option.map_some]
      rw [allBut_idx hn (by omega) no]
      rfl
  refine (List.map_inj_right (f := some) (fun a b h => Option.some.inj h)).mp ?_
  obtain ⟨F, hF⟩ : ∃ F : Nat → Option Br, F = fun k => (B1[k]?).map (rnB (allBut n B1.length)) := ⟨_, rfl⟩
  rw [← hF] at e
  have key : ∀ k, k < B1.length → k ≠ n → F k = (B1[k]?).map (lowB n) := by rw [hF]; exact key
  rw [e]
  unfold allBut
  rw [List.map_append, List.map_append]
  congr 1
  · refine List.ext_getElem? fun i => ?_
    rw [List.getElem?_map, List.getElem?_map, List.getElem?_take]
    by_cases h : i < n
    · rw [if_pos h, List.getElem?_range h]
      show some (F i) = _
      rw [key i (by omega) (by omega), List.getElem?_map]
      obtain ⟨b, hb⟩ : ∃ b, B1[i]? = some b := ⟨_, List.getElem?_eq_getElem (by omega)⟩
      rw [hb]
      rfl
    · rw [if_neg h, List.getElem?_eq_none (by simp; omega)]
      rfl
  · refine List.ext_getElem? fun i => ?_
    rw [List.getElem?_map, List.getElem?_map, List.getElem?_drop]
    by_cases h : i < B1.length - n - 1
    · have : (List.range' (n + 1) (B1.length - n - 1))[i]? = some (n + 1 + i) := by
        rw [List.getElem?_eq_some_iff]
        exact ⟨by simpa using h, by simp⟩
      rw [this]
      show some (F (n + 1 + i)) = _
      rw [key (n + 1 + i) (by omega) (by omega), List.getElem?_map]
      obtain ⟨b, hb⟩ : ∃ b, B1[n + 1 + i]? = some b := ⟨_, List.getElem?_eq_getElem (by omega)⟩
      rw [hb]
      rfl
    · rw [List.getElem?_eq_none (by simp; omega), List.getElem?_eq_none (by simp; omega)]
      rfl
/-- a birth without children is taken out: what stands behind it is a grown row again -/
theorem take_gw (G1 : GwOk t u ls start s1 B1) {n : Nat} (hn : n < B1.length) (hl : ∀ b ∈ B1, b.h.1 ≠ some n) : ∃ (ss2 : List (Nat × Nat)), GwOk t u ls start (growT (wQ ls) start ss2).1 (growT (wQ ls) start ss2).2 ∧
    lts none 0 (growT (wQ ls) start ss2).1 = ((lts none 0 s1).filter fun x => decide (x.2.1 ≠ some n)).map (lowL n) ∧
    (growT (wQ ls) start ss2).2 = (B1.map (lowB n)).take n ++ (B1.map (lowB n)).drop (n + 1) := by
  obtain ⟨ss2, I, hc, e⟩ := take_ex G1.T hn hl
  have T2 := growT_ok (W := wQ ls) (start := start) ss2
  have eb := low_births G1.T hn hl I
  rw [low_lts hn _ G1.T.lown] at e
  have ex : (growT (wQ ls) start ss2).1.exp = (((lts none 0 s1).filter fun x => decide (x.2.1 ≠ some n)).map (lowL n)).map (·.1) := by rw [← e, lts_exp]
  have hm : ∀ b ∈ (growT (wQ ls) start ss2).2, ∃ b1 ∈ B1, b.c = b1.c ∧ b.w = b1.w ∧ b.g = b1.g := fun b hb => by
    rw [eb] at hb
    have : b ∈ B1.map (lowB n) := by
      rcases List.mem_append.mp hb with h | h
      · exact List.mem_of_mem_take h
      · exact List.mem_of_mem_drop h
    obtain ⟨b1, h1, rfl⟩ := List.mem_map.mp this
    exact ⟨b1, h1, rfl, rfl, rfl⟩
  refine ⟨ss2, ⟨G1.k, G1.hl, T2, ⟨fun b hb => ?_, fun b hb => ?_, fun b hb => ?_⟩, fun x hx => ?_, ?_, ?_⟩, e, eb⟩
  · obtain ⟨b1, h1, h2, _, _⟩ := hm b hb
    rw [h2]
    exact G1.K.c b1 h1
  · obtain ⟨b1, h1, _, _, h2⟩ := hm b hb
    rw [h2]
    exact G1.K.g b1 h1
  · obtain ⟨b1, h1, _, h2, _⟩ := hm b hb
    rw [h2]
    exact G1.K.w b1 h1
  · rw [ex] at hx
    obtain ⟨y, hy, rfl⟩ := List.mem_map.mp hx
    obtain ⟨z, hz, rfl⟩ := List.mem_map.mp hy
    refine G1.r _ ?_
    rw [← lts_exp s1 none 0]
    exact List.mem_map.mpr ⟨z, (List.mem_filter.mp hz).1, rfl⟩
  · rw [ex]
    have h1 := List.length_filter_le (fun x : Lt => decide (x.2.1 ≠ some n)) (lts none 0 s1)
    have h2 : (lts none 0 s1).length = s1.exp.length := by rw [← lts_exp s1 none 0, List.length_map]
    have h3 := G1.n
    simp only [List.length_map]
    omega
  · rw [eb]
    have := G1.b
    simp
    omega
end
end G
namespace G
open PySem PySem.Spec PyProof.Rows L2 TL
def propK1 (b : Bool) (m : List VD → Mem → Res VD) (x : VD) (M : Mem) : Res VD := if b then nox (m [x] M) else .fail
def propK (c : Nat) (m : List VD → Mem → Res VD) (r : Res VD) : Res VD := r.bind fun x M1 => if isC c M1 x then nox (m [x] M1) else .fail
@[simp] theorem e_prop_eq {c m mo ρ M} : e_prop c m mo ρ M = propK c m (mo ρ M) := nrfl rfl
@[simp] theorem propK_ok {c m x M} : propK c m (.ok x M) = propK1 (isC c M x) m x M := nrfl rfl
@[simp] theorem propK1_t {m x M} : propK1 true m x M = nox (m [x] M) := nrfl rfl
@[simp] theorem nox_ok {v : VD} {M} : nox (.ok v M) = .ok v M := nrfl rfl
def linksD (n : Nat) (cs : List Nat) : D := .obj 2 [.int n, .lst ((sortC cs).map unC)]
def PrsOk (n : Nat) (cs : List Nat) : Prop := ∀ c ∈ cs, c / 1000 < n ∧ c % 1000 < n
theorem PrsOk.lt {n : Nat} {cs : List Nat} (h : PrsOk n cs) (hn : n ≤ 200) : ∀ c ∈ cs, c < 1000000 := fun c hc => by
  have := h c hc
  omega
theorem itoa_len2 : ∀ n < 64, (itoa (n : Nat)).length ≤ 20 := by decide +kernel
end G
namespace G
open PySem PySem.Spec PyProof.Rows L2 TL
theorem PrsOk.app {n : Nat} {cs ds : List Nat} (h : PrsOk n cs) (h2 : PrsOk n ds) : PrsOk n (cs ++ ds) := fun c hc => (List.mem_append.mp hc).elim (h c) (h2 c)
@[simp] theorem pairs_map {cs : List Nat} : (cs.map unC).map VD.d = cs.map fun c => VD.d (unC c) := by simp
end G
namespace G
open PySem PySem.Spec PyProof.Rows L2 TL
def rowD (r : List Nat) : D := .tup (r.map fun (i : Nat) => .int i)
def machD (t : List Nat) (tab : List (List Nat)) (bad : List Nat) : D := .obj 1 [.str t, .lst (tab.map rowD), .lst (bad.map fun (i : Nat) => .int i)]
/-- a right table and right bad states -/
structure MchOk (t : List Nat) (n : Nat) (tab : List (List Nat)) (bad : List Nat) : Prop where
  sub : t.Sublist azL
  t1 : 1 ≤ t.length
  t6 : t.length ≤ 6
  n1 : 1 ≤ n
  n2 : n ≤ 200
  len : tab.length = n
  row : ∀ r ∈ tab, r.length = t.length ∧ ∀ v ∈ r, v < n
  asc : bad.Pairwise (· < ·)
  bd : ∀ v ∈ bad, v < n
theorem MchOk.rt {t : List Nat} {n tab bad} (h : MchOk t n tab bad) : rk azL 6 t = true := sub_rk az_lt h.sub h.t1 h.t6
@[simp] theorem f_sidx_eq {a : List Nat} {c : Nat} {M} : f_sidx (.d (.str a)) (.d (.str [c])) M = if c ∈ a then .ok (.d (.int (a.idxOf c : Nat))) M else .fail := nrfl rfl
@[simp] theorem isC_mach {c : Nat} {t tab bad M} : isC c M (.d (machD t tab bad)) = (1 == c) := nrfl rfl
@[simp] theorem eqTy_mach {c : Nat} {t tab bad M} : eqTy c M (.d (machD t tab bad)) = (1 == c) := nrfl rfl
@[simp] theorem fld_mach {t tab bad M} : f_fld (tb 1 0) (.d (machD t tab bad)) M = .ok (.d (.str t)) M := nrfl rfl
@[simp] theorem isC_links {c n : Nat} {M L} : isC c M (.d (linksD n L)) = (2 == c) := nrfl rfl
@[simp] theorem eqTy_links {c n : Nat} {M L} : eqTy c M (.d (linksD n L)) = (2 == c) := nrfl rfl
end G
namespace G
open PySem PySem.Spec PyProof.Rows L2 TL
theorem len_subG {α : Type} [BEq α] [LawfulBEq α] : ∀ {l m : List α}, l.Nodup → (∀ x ∈ l, x ∈ m) → l.length ≤ m.length
  | [], _, _, _ => Nat.zero_le _
  | a :: l, m, h, hs => by
    rw [List.nodup_cons] at h
    have ha := hs a List.mem_cons_self
    have := len_subG (l := l) (m := m.erase a) h.2 fun x hx => (List.mem_erase_of_ne fun e => h.1 (by rw [← e]; exact hx)).mpr (hs x (List.mem_cons_of_mem _ hx))
    rw [List.length_erase_of_mem ha] at this
    have := List.length_pos_of_mem ha
    simp
    omega
structure POk (C P : List (Nat × Nat)) : Prop where
  nd : P.Nodup
  sub : ∀ p ∈ P, p ∈ C
theorem POk.le {C P : List (Nat × Nat)} (h : POk C P) : P.length ≤ C.length := len_subG h.nd h.sub
theorem POk.add {C P : List (Nat × Nat)} (h : POk C P) {p : Nat × Nat} (hp : p ∈ C) : POk C (if p ∈ P then P else P ++ [p]) := by
  split
  · exact h
  · rename_i hn
    refine ⟨List.nodup_append.mpr ⟨h.nd, by simp, fun a ha b hb => ?_⟩, fun q hq => ?_⟩
    · simp at hb
      subst hb
      exact fun e => hn (e ▸ ha)
    · rcases List.mem_append.mp hq with hq | hq
      · exact h.sub q hq
      · simp at hq
        exact hq ▸ hp
def lidxK (r : Res VD) (ms : Mx (List VD)) (ρ : Env) : Res VD := r.bind fun x M1 => match lstOf M1 x with
  | some _ => (ms ρ M1).bind fun vs M2 => f_lidx (x :: vs) M2
  | none => .fail
def lidxK1 (o : Option (List D)) (x : VD) (ms : Mx (List VD)) (ρ : Env) (M : Mem) : Res VD := match o with
  | some _ => (ms ρ M).bind fun vs M2 => f_lidx (x :: vs) M2
  | none => .fail
def lidxK2 (x : VD) (r : Res (List VD)) : Res VD := r.bind fun vs M2 => f_lidx (x :: vs) M2
@[simp] theorem e_lidx_eq {a ms ρ M} : e_lidx a ms ρ M = lidxK (a ρ M) ms ρ := nrfl rfl
@[simp] theorem lidxK_ok {x M ms ρ} : lidxK (.ok x M) ms ρ = lidxK1 (lstOf M x) x ms ρ M := nrfl rfl
@[simp] theorem lidxK1_ok {ds x ms ρ M} : lidxK1 (some ds) x ms ρ M = lidxK2 x (ms ρ M) := nrfl rfl
@[simp] theorem lidxK2_ok {x vs M} : lidxK2 x (.ok vs M) = f_lidx (x :: vs) M := nrfl rfl
def tupA (o : Option MO) (M : Mem) : Res VD := match o with
  | some (.lst ds) => .ok (.d (.tup ds)) M
  | _ => .fail
@[simp] theorem tupOK_a {j : Nat} {M : Mem} : tupOK (.ok (.adr j) M) = tupA (M[j]?) M := by
  show f_tup (.adr j) M = _
  unfold f_tup tupA lstOf
  dsimp only
  cases M[j]? with
  | none => rfl
  | some m => cases m <;> rfl
@[simp] theorem tupA_ok {ds M} : tupA (some (.lst ds)) M = .ok (.d (.tup ds)) M := nrfl rfl
end G
namespace G
open PySem PySem.Spec PyProof.Rows L2 TL
def statK1 (n : Nat) (m : List VD → Mem → Res VD) (r : Res (List VD)) (mk : Mx VD) (ρ : Env) : Res VD := r.bind fun vs M1 => (mk ρ M1).bind fun v M2 => if vs.length = n then m (vs ++ [v]) M2 else .fail
def statK2 (n : Nat) (m : List VD → Mem → Res VD) (vs : List VD) (r : Res VD) : Res VD := r.bind fun v M2 => if vs.length = n then m (vs ++ [v]) M2 else .fail
@[simp] theorem e_statK_eq {n m ms mk ρ M} : e_statK n m ms mk ρ M = statK1 n m (ms ρ M) mk ρ := nrfl rfl
@[simp] theorem statK1_ok {n m vs mk ρ M} : statK1 n m (.ok vs M) mk ρ = statK2 n m vs (mk ρ M) := nrfl rfl
@[simp] theorem statK2_ok {n m vs v M} (h : vs.length = n) : statK2 n m vs (.ok v M) = m (vs ++ [v]) M := if_pos h
@[simp] theorem arD_ok {n m} {vs : List VD} {dv : List D} {M} (h : vs.length + dv.length = n) : arD n dv m vs M = m (vs ++ dv.map .d) M := if_pos h
@[simp] theorem f_inT_eq {neg : Bool} {a z : List Nat} {M} : f_inT neg (.d (.str a)) (.d (.str z)) M = if a ≠ [] then .ok (.d (.bl (subS a z != neg))) M else .fail := nrfl rfl
/-- a text for a machine -/
structure TxOk (t w : List Nat) : Prop where
  sub : t.Sublist azL
  t1 : 1 ≤ t.length
  t6 : t.length ≤ 6
  ne : w ≠ []
  mem : ∀ c ∈ w, c ∈ t
  w16 : w.length ≤ 16
@[simp] theorem f_ends_eq {a b : List Nat} {M} : f_ends (.d (.str a)) (.d (.str b)) M = .ok (.d (.bl (Txt.endswith (enc a) (enc b)))) M := nrfl rfl
@[simp] theorem f_mulT_eq {s : List D} {j : Int} {M} : f_mulT (.d (.tup s)) (.d (.int j)) M = gi (s ≠ [] ∧ 1 ≤ j ∧ j ≤ 1000 ∧ s.length ≤ 1000) (.ok (.d (.tup (List.replicate j.toNat s).flatten)) M) .fail := nrfl rfl
end G
namespace G
open Sg
open L2 (atI)
theorem any_ow {e : Option Nat → D} {n : Nat} {B : List Br} (he : ∀ o, D.eqv (e o) (.int n) = decide (o = some n)) : (B.map fun b => e b.h.1).any (fun z => D.eqv z (.int n)) = B.any fun b => decide (b.h.1 = some n) := by
  rw [List.any_map]
  congr 1
  funext b
  exact he b.h.1
theorem owL_eq {n : Nat} (o : Option Nat) : D.eqv (owL o) (.int n) = decide (o = some n) := by
  cases o with
  | none =>
    have : ¬ ((-1 : Int) = (n : Int)) := by omega
    simp [owL, owI, D.eqv, this]
  | some k =>
    by_cases h : k = n
    · simp [owL, owI, D.eqv, h]
    · have : ¬ ((k : Int) = (n : Int)) := by omega
      simp [owL, owI, D.eqv, h, this]
theorem owN_eq {n : Nat} (o : Option Nat) : D.eqv (owN o) (.int n) = decide (o = some n) := by
  cases o with
  | none => simp [owN, D.eqv]
  | some k =>
    by_cases h : k = n
    · simp [owN, D.eqv, h]
    · have : ¬ ((k : Int) = (n : Int)) := by omega
      simp [owN, D.eqv, h, this]
theorem lowered_ok {o : Option Nat} {n : Nat} {M : Mem} : m_lowered [.d (owN o), .d (.int n)] M = .ok (.d (owN (o.map (lowN n)))) M := by
  unfold m_lowered
  rw [fnM_eq]
  unfold b_lowered
  cases o with
  | none => simp [owN]
  | some k =>
    unfold lowN
    by_cases h : n < k
    · have e : ((k : Int) - 1) = ((k - 1 : Nat) : Int) := by omega
      simp [owN, h, e]
    · simp [owN, h]
theorem less_ok {o : Option Nat} {n : Nat} {M : Mem} : m__law_less [.d (owL o), .d (.int n)] M = .ok (.d (owL (o.map (lowN n)))) M := by
  unfold m__law_less
  rw [fnM_eq]
  unfold b__law_less
  cases o with
  | none =>
    have h : ¬ ((n : Int) < -1) := by omega
    simp [owL, owI, h]
  | some k =>
    unfold lowN
    by_cases h : n < k
    · have e : ((k : Int) - 1) = ((k - 1 : Nat) : Int) := by omega
      simp [owL, owI, h, e]
    · simp [owL, owI, h]
/-- a comprehension over enumerate without one index -/
theorem compL_out {turn : D → Mem → Res (Option D)} {M : Mem} {n : Nat} : ∀ (xs : List D) (k : Nat) (acc : List D), (∀ (i : Nat) x, turn (.tup [.int i, x]) M = .ok (if i ≠ n then some x else none) M) → acc.length + xs.length ≤ lim → compL turn (enumL xs k) M acc = .ok (acc ++ (if k ≤ n then xs.take (n - k) ++ xs.drop (n - k + 1) else xs)) M
  | [], k, acc, _, _ => by simp [enumL, compL]
  | x :: xs, k, acc, ht, hl => by
    simp only [List.length_cons] at hl
    rw [enumL, compL_cons, ht]
    by_cases e : k = n
    · subst e
      have := compL_out xs (k + 1) acc ht (by omega)
      simp only [ne_eq, not_true_eq_false, if_false, clK_none]
      rw [this, if_neg (by omega), if_pos (by omega)]
      simp
    · have := compL_out xs (k + 1) (acc ++ [x]) ht (by simp; omega)
      simp only [ne_eq, e, not_false_eq_true, if_true, clK_some]
      rw [if_pos (by omega), this]
      by_cases h : k + 1 ≤ n
      · rw [if_pos h, if_pos (by omega), show n - k = (n - (k + 1)) + 1 by omega]
        simp
      · rw [if_neg h, if_neg (by omega)]
        simp
/-- the letters and births behind a take -/
def outL (n : Nat) (L : List Lt) : List Lt := (L.filter fun x => decide (x.2.1 ≠ some n)).map (lowL n)
def outB (n : Nat) (B : List Br) : List Br := (B.map (lowB n)).take n ++ (B.map (lowB n)).drop (n + 1)
theorem wob_ok {L : List Lt} {B : List Br} {n : Nat} {M : Mem} (hL : L.length ≤ 1000) (hB : B.length ≤ 1000) : m_without_birth [.d (.lst (L.map (letD owN))), .d (.lst (B.map (birD owN))), .d (.int n)] M = .ok (.d (.tup [.lst ((outL n L).map (letD owN)), .lst ((outB n B).map (birD owN))])) M := by
  have hlim := lim_eq
  have c1 := compL_filterA (turn := cTurn [5, 6, 7] (g_tup 3 (g_cons (g_name 5) (g_cons (g_name 6) (g_cons (g_name 7) g_nil)))) (e_asB (e_op f_ne (e_var 6) (e_var 2))) (e_tup (a_cons (e_var 5) (a_cons (e_call 2 m_lowered (a_cons (e_var 6) (a_cons (e_var 2) a_nil))) (a_cons (e_var 7) a_nil)))) [some (.d (.lst (L.map (letD owN)))), some (.d (.lst (B.map (birD owN)))), some (.d (.int n)), none, none, none, none, none, none, none, none, none, none]) (M := M) (fun x : Lt => decide (x.2.1 ≠ some n)) (letD owN) (fun x => letD owN (lowL n x)) L [] (fun x _ => by
    have lo := fun M => lowered_ok (o := x.2.1) (n := n) (M := M)
    generalize L.map (letD owN) = LL at *
    generalize B.map (birD owN) = BB at *
    unfold letD lowL
    obtain ⟨c, o, j⟩ := x
    dsimp only at lo ⊢
    have q := owN_eq (n := n) o
    have pp : D.pl 20 (owN o) = true := by cases o <;> rfl
    generalize owN o = w1 at *
    generalize owN (o.map (lowN n)) = w2 at *
    by_cases h : o = some n
    · simp (disch := first | (simp; done) | omega) [ifl, ifL, lo, q, pp, h]
    · simp (disch := first | (simp; done) | omega) [ifl, ifL, lo, q, pp, h]) (by simp; omega)
  have c2 := compL_mapA (turn := cTurn [8, 9, 10, 11] (g_tup 4 (g_cons (g_name 8) (g_cons (g_name 9) (g_cons (g_name 10) (g_cons (g_name 11) g_nil))))) e_yes (e_tup (a_cons (e_var 8) (a_cons (e_var 9) (a_cons (e_call 2 m_lowered (a_cons (e_var 10) (a_cons (e_var 2) a_nil))) (a_cons (e_var 11) a_nil))))) [some (.d (.lst (L.map (letD owN)))), some (.d (.lst (B.map (birD owN)))), some (.d (.int n)), some (.d (.lst ((outL n L).map (letD owN)))), none, none, none, none, none, none, none, none, none]) (M := M) (birD owN) (fun b => birD owN (lowB n b)) B [] (fun b _ => by
    have lo := fun M => lowered_ok (o := b.h.1) (n := n) (M := M)
    generalize L.map (letD owN) = LL at *
    generalize (outL n L).map (letD owN) = LO at *
    generalize B.map (birD owN) = BB at *
    unfold birD lowB
    dsimp only
    generalize owN b.h.1 = w1 at *
    generalize owN (b.h.1.map (lowN n)) = w2 at *
    simp (disch := first | (simp; done) | omega) [ifl, ifL, lo]) (by simp; omega)
  have c3 := compL_out (turn := cTurn [7, 12] (g_tup 2 (g_cons (g_name 7) (g_cons (g_name 12) g_nil))) (e_asB (e_op f_ne (e_var 7) (e_var 2))) (e_var 12) [some (.d (.lst (L.map (letD owN)))), some (.d (.lst (B.map (birD owN)))), some (.d (.int n)), some (.d (.lst ((outL n L).map (letD owN)))), some (.d (.lst (B.map fun b => birD owN (lowB n b)))), none, none, none, none, none, none, none, none]) (M := M) (n := n) (B.map fun b => birD owN (lowB n b)) 0 [] (fun i x => by
    generalize L.map (letD owN) = LL at *
    generalize (outL n L).map (letD owN) = LO at *
    generalize (B.map fun b => birD owN (lowB n b)) = BC at *
    generalize B.map (birD owN) = BB at *
    by_cases h : i = n
    · subst h
      simp (disch := first | (simp; done) | omega) [ifl, ifL, D.eqv]
    · have h2 : ((i : Int) == (n : Int)) = false := by simp; omega
      simp (disch := first | (simp; done) | omega) [ifl, ifL, D.eqv, h, h2]) (by simp; omega)
  have eB : (B.map fun b => birD owN (lowB n b)).take n ++ (B.map fun b => birD owN (lowB n b)).drop (n + 1) = (outB n B).map (birD owN) := by
    unfold outB
    simp [List.map_take, List.map_drop]
    rfl
  have eL : ((L.filter fun x => decide (x.2.1 ≠ some n)).map fun x => letD owN (lowL n x)) = (outL n L).map (letD owN) := by
    unfold outL
    rw [List.map_map]
    rfl
  simp only [List.nil_append, eL, eB, Nat.zero_le, if_true, Nat.sub_zero] at c1 c2 c3
  unfold m_without_birth
  rw [fnM_eq]
  unfold b_without_birth
  generalize (outL n L).map (letD owN) = LO at *
  generalize (outB n B).map (birD owN) = BO at *
  generalize L.map (letD owN) = LL at *
  generalize B.map (birD owN) = BB at *
  generalize (B.map fun b => birD owN (lowB n b)) = BC at *
  simp (disch := first | (simp; done) | omega) [ifl, ifL, c1, c2, c3]
theorem taken_ok {L : List Lt} {B : List Br} {n : Nat} {M : Mem} (hL : L.length ≤ 1000) (hB : B.length ≤ 1000) (hn : n < B.length) : m__law_taken [.d (.tup [.lst (L.map (letD owL)), .lst (B.map (birD owL))]), .d (.int n)] M = .ok (.d (.tup [.lst ((outL n L).map (letD owL)), .lst ((outB n B).map (birD owL))])) M := by
  have hlim := lim_eq
  have c1 := compL_filterA (turn := cTurn [4] (g_name 4) (e_asB (e_op f_ne (e_op f_ix (e_var 4) (e_c (.int 1))) (e_var 1))) (e_tup (a_cons (e_op f_ix (e_var 4) (e_c (.int 0))) (a_cons (e_call 2 m__law_less (a_cons (e_op f_ix (e_var 4) (e_c (.int 1))) (a_cons (e_var 1) a_nil))) (a_cons (e_op f_ix (e_var 4) (e_c (.int 2))) a_nil)))) [some (.d (.tup [.lst (L.map (letD owL)), .lst (B.map (birD owL))])), some (.d (.int n)), none, none, none, none]) (M := M) (fun x : Lt => decide (x.2.1 ≠ some n)) (letD owL) (fun x => letD owL (lowL n x)) L [] (fun x _ => by
    have lo := fun M => less_ok (o := x.2.1) (n := n) (M := M)
    generalize L.map (letD owL) = LL at *
    generalize B.map (birD owL) = BB at *
    unfold letD lowL
    obtain ⟨c, o, j⟩ := x
    have a0 : ∀ x1 x2 x3 : D, atI [x1, x2, x3] 0 = some x1 := fun _ _ _ => rfl
    have a1 : ∀ x1 x2 x3 : D, atI [x1, x2, x3] 1 = some x2 := fun _ _ _ => rfl
    have a2 : ∀ x1 x2 x3 : D, atI [x1, x2, x3] 2 = some x3 := fun _ _ _ => rfl
    dsimp only at lo ⊢
    have q : D.eqv (owL o) (.int n) = decide (o = some n) := by
      cases o with
      | none =>
        have : ¬ ((-1 : Int) = (n : Int)) := by omega
        simp [owL, owI, D.eqv, this]
      | some k =>
        by_cases h : k = n
        · simp [owL, owI, D.eqv, h]
        · have : ¬ ((k : Int) = (n : Int)) := by omega
          simp [owL, owI, D.eqv, h, this]
    have pp : D.pl 20 (owL o) = true := rfl
    generalize owL o = w1 at *
    generalize owL (o.map (lowN n)) = w2 at *
    by_cases h : o = some n
    · simp (disch := first | (simp; done) | omega) [ifl, ifL, lo, a0, a1, a2, q, pp, h]
    · simp (disch := first | (simp; done) | omega) [ifl, ifL, lo, a0, a1, a2, q, pp, h]) (by simp; omega)
  have c2 := compL_mapA (turn := cTurn [5] (g_name 5) e_yes (e_tup (a_cons (e_op f_ix (e_var 5) (e_c (.int 0))) (a_cons (e_op f_ix (e_var 5) (e_c (.int 1))) (a_cons (e_call 2 m__law_less (a_cons (e_op f_ix (e_var 5) (e_c (.int 2))) (a_cons (e_var 1) a_nil))) (a_cons (e_op f_ix (e_var 5) (e_c (.int 3))) a_nil))))) [some (.d (.tup [.lst (L.map (letD owL)), .lst (B.map (birD owL))])), some (.d (.int n)), some (.d (.lst ((outL n L).map (letD owL)))), none, none, none]) (M := M) (birD owL) (fun b => birD owL (lowB n b)) B [] (fun b _ => by
    have lo := fun M => less_ok (o := b.h.1) (n := n) (M := M)
    generalize L.map (letD owL) = LL at *
    generalize (outL n L).map (letD owL) = LO at *
    generalize B.map (birD owL) = BB at *
    have a0 : ∀ x1 x2 x3 x4 : D, atI [x1, x2, x3, x4] 0 = some x1 := fun _ _ _ _ => rfl
    have a1 : ∀ x1 x2 x3 x4 : D, atI [x1, x2, x3, x4] 1 = some x2 := fun _ _ _ _ => rfl
    have a2 : ∀ x1 x2 x3 x4 : D, atI [x1, x2, x3, x4] 2 = some x3 := fun _ _ _ _ => rfl
    have a3 : ∀ x1 x2 x3 x4 : D, atI [x1, x2, x3, x4] 3 = some x4 := fun _ _ _ _ => rfl
    unfold birD lowB
    dsimp only
    generalize owL b.h.1 = w1 at *
    generalize owL (b.h.1.map (lowN n)) = w2 at *
    simp (disch := first | (simp; done) | omega) [ifl, ifL, lo, a0, a1, a2, a3]) (by simp; omega)
  have eB : (B.map fun b => birD owL (lowB n b)).take n ++ (B.map fun b => birD owL (lowB n b)).drop (n + 1) = (outB n B).map (birD owL) := by
    unfold outB
    simp [List.map_take, List.map_drop]
    rfl
  have eL : ((L.filter fun x => decide (x.2.1 ≠ some n)).map fun x => letD owL (lowL n x)) = (outL n L).map (letD owL) := by
    unfold outL
    rw [List.map_map]
    rfl
  have s1 : cut (B.map fun b => birD owL (lowB n b)) none (some n) = (B.map fun b => birD owL (lowB n b)).take n := cut_take (by simp; omega)
  have s2 : cut (B.map fun b => birD owL (lowB n b)) (some ((n : Int) + 1)) none = (B.map fun b => birD owL (lowB n b)).drop (n + 1) := by
    have := cut_drop (xs := B.map fun b => birD owL (lowB n b)) (n := n + 1) (by simp; omega)
    exact_mod_cast this
  have l1 : ((B.map fun b => birD owL (lowB n b)).take n).length ≤ 1000 := by simp; omega
  have l2 : ((B.map fun b => birD owL (lowB n b)).drop (n + 1)).length ≤ 1000 := by simp; omega
  have l3 : (B.map fun b => birD owL (lowB n b)).length ≤ 1000 := by simp; omega
  simp only [List.nil_append, eL] at c1 c2
  unfold m__law_taken
  rw [fnM_eq]
  unfold b__law_taken
  rw [← eB]
  generalize (outL n L).map (letD owL) = LO at *
  generalize L.map (letD owL) = LL at *
  generalize B.map (birD owL) = BB at *
  generalize (B.map fun b => birD owL (lowB n b)) = BC at *
  simp (disch := first | (simp; done) | omega) [ifl, ifL, c1, c2, s1, s2]
/-- what taking the letter at p gives -/
def canT (L : List Lt) (B : List Br) (p : Nat) : Option Nat := match L[p]? with
  | some (_, some n, _) => if B.any (fun b => decide (b.h.1 = some n)) then none else some n
  | _ => none
def dueT (L : List Lt) (B : List Br) (p : Nat) : D := match L[p]? with
  | none => .tup [.str [85, 110, 107, 110, 111, 119, 110, 76, 101, 116, 116, 101, 114], .int p]
  | some (_, none, _) => .tup [.str [78, 111, 116, 66, 111, 114, 110], .int p]
  | some (_, some n, _) => if B.any (fun b => decide (b.h.1 = some n)) then .tup [.str [78, 111, 116, 70, 114, 101, 101], .int p] else .tup [.str [], .str ((B[n]?.map (·.w)).getD [])]
theorem due_ok {L : List Lt} {B : List Br} {p : Nat} {M : Mem} (hL : L.length ≤ 1000) (hB : B.length ≤ 1000) (hp : p ≤ L.length) (ho : ∀ x ∈ L, ∀ o, x.2.1 = some o → o < B.length) : m__law_take_due [.d (.tup [.lst (L.map (letD owL)), .lst (B.map (birD owL))]), .d (.int p)] M = .ok (.d (dueT L B p)) M := by
  have hlim := lim_eq
  have l1 : (L.map (letD owL)).length = L.length := by simp
  have hpp : (0 : Int) ≤ (p : Int) := by omega
  have a0 : ∀ x1 x2 x3 : D, atI [x1, x2, x3] 0 = some x1 := fun _ _ _ => rfl
  have a1 : ∀ x1 x2 x3 : D, atI [x1, x2, x3] 1 = some x2 := fun _ _ _ => rfl
  have b1 : ∀ x1 x2 x3 x4 : D, atI [x1, x2, x3, x4] 1 = some x2 := fun _ _ _ _ => rfl
  have b2 : ∀ x1 x2 x3 x4 : D, atI [x1, x2, x3, x4] 2 = some x3 := fun _ _ _ _ => rfl
  have t0 : ∀ x1 x2 : D, atI [x1, x2] 0 = some x1 := fun _ _ => rfl
  have t1 : ∀ x1 x2 : D, atI [x1, x2] 1 = some x2 := fun _ _ => rfl
  have c2 := fun (y1 y2 : Option VD) => compL_mapA (turn := cTurn [3] (g_name 3) e_yes (e_op f_ix (e_var 3) (e_c (.int 2))) [some (.d (.tup [.lst (L.map (letD owL)), .lst (B.map (birD owL))])), y1, y2, none]) (M := M) (birD owL) (fun b => owL b.h.1) B [] (fun b _ => by
    generalize L.map (letD owL) = LL at *
    generalize B.map (birD owL) = BB at *
    unfold birD
    simp (disch := first | (simp; done) | omega) [ifl, ifL, b2]) (by simp; omega)
  simp only [List.nil_append] at c2
  unfold m__law_take_due
  rw [fnM_eq]
  unfold b__law_take_due dueT
  cases e : L[p]? with
  | none =>
    have hl : ¬ ((p : Int) < (L.length : Int)) := by
      have := List.getElem?_eq_none_iff.mp e
      omega
    generalize L.map (letD owL) = LL at *
    generalize B.map (birD owL) = BB at *
    simp (disch := first | (simp; done) | omega) [ifl, ifL, l1, hl, hpp, t0, t1]
  | some x =>
    have hl : (p : Int) < (L.length : Int) := by
      have := (List.getElem?_eq_some_iff.mp e).1
      omega
    have hx := List.mem_of_getElem? e
    obtain ⟨c, o, j⟩ := x
    have ha : atI (L.map (letD owL)) (p : Int) = some (.tup [.str [c], owL o, .int j]) := atI_nat' (by rw [List.getElem?_map, e]; rfl)
    cases o with
    | none =>
      generalize L.map (letD owL) = LL at *
      generalize B.map (birD owL) = BB at *
      simp (disch := first | (simp; done) | omega) [ifl, ifL, l1, hl, hpp, t0, t1, ha, a1, owL, owI]
    | some n =>
      have hn := ho _ hx n rfl
      obtain ⟨b, hb⟩ : ∃ b, B[n]? = some b := ⟨_, List.getElem?_eq_getElem hn⟩
      have hab : atI (B.map (birD owL)) (n : Int) = some (.tup [.str [b.c], .str b.w, owL b.h.1, .int b.h.2]) := atI_nat' (by rw [List.getElem?_map, hb]; rfl)
      have an := any_ow (e := owL) (n := n) (B := B) owL_eq
      have pq : D.plA 19 (B.map fun b => owL b.h.1) = true := plA_all fun x hx => by
        obtain ⟨y, _, rfl⟩ := List.mem_map.mp hx
        rfl
      have hnn : ¬ ((n : Int) < 0) := by omega
      show _ = Res.ok (VD.d (if B.any (fun b => decide (b.h.1 = some n)) then .tup [.str [78, 111, 116, 70, 114, 101, 101], .int p] else .tup [.str [], .str ((B[n]?.map (·.w)).getD [])])) M
      rw [hb]
      generalize L.map (letD owL) = LL at *
      generalize B.map (birD owL) = BB at *
      generalize (B.map fun b => owL b.h.1) = BO at *
      by_cases h : B.any (fun b => decide (b.h.1 = some n)) = true
      · rw [h] at an ⊢
        simp (disch := first | (simp; done) | omega) [ifl, ifL, l1, hl, hpp, t0, t1, ha, a1, owL, owI, hnn, c2, an, pq]
      · rw [Bool.not_eq_true] at h
        rw [h] at an ⊢
        simp (disch := first | (simp; done) | omega) [ifl, ifL, l1, hl, hpp, t0, t1, ha, a1, owL, owI, hnn, c2, an, pq, hab, b1]
end G
namespace G
open Sg
open L2 (atI)
section
variable {t u : List Nat} {ls : List Ln} {start : List Nat} {s : Tree} {B : List Br}
theorem canT_hp {L : List Lt} {p n : Nat} (h : canT L B p = some n) : (∃ c j, L[p]? = some (c, some n, j)) ∧ (∀ b ∈ B, b.h.1 ≠ some n) := by
  unfold canT at h
  cases e : L[p]? with
  | none => rw [e] at h; cases h
  | some x =>
    obtain ⟨c, o, j⟩ := x
    rw [e] at h
    cases o with
    | none => cases h
    | some k =>
      have h : (if B.any (fun b => decide (b.h.1 = some k)) then none else some k) = some n := h
      split at h
      · cases h
      · rename_i hq
        cases h
        refine ⟨⟨c, j, rfl⟩, fun b hb hh => hq ?_⟩
        rw [List.any_eq_true]
        exact ⟨b, hb, by simpa using hh⟩
theorem dueT_ok {L : List Lt} {p n : Nat} (h : canT L B p = some n) : dueT L B p = .tup [.str [], .str ((B[n]?.map (·.w)).getD [])] := by
  obtain ⟨⟨c, j, e⟩, hl⟩ := canT_hp h
  unfold dueT
  rw [e]
  show (if B.any (fun b => decide (b.h.1 = some n)) then _ else _) = _
  rw [if_neg]
  intro hq
  obtain ⟨b, hb, hh⟩ := List.any_eq_true.mp hq
  exact hl b hb (by simpa using hh)
theorem dueT_no {L : List Lt} {p : Nat} (h : canT L B p = none) : ∃ c : List Nat, c ≠ [] ∧ dueT L B p = .tup [.str c, .int p] := by
  unfold canT at h
  unfold dueT
  cases e : L[p]? with
  | none => exact ⟨_, by simp, rfl⟩
  | some x =>
    obtain ⟨c, o, j⟩ := x
    rw [e] at h
    cases o with
    | none => exact ⟨_, by simp, rfl⟩
    | some k =>
      have h : (if B.any (fun b => decide (b.h.1 = some k)) then none else some k) = none := h
      split at h
      · rename_i hq
        refine ⟨[78, 111, 116, 70, 114, 101, 101], by simp, ?_⟩
        show (if B.any (fun b => decide (b.h.1 = some k)) then _ else _) = _
        rw [if_pos hq]
      · cases h
theorem take_ok {M : Mem} {i : Nat} {busy : Bool} {lm : Int} {past ahead : List D} (G : GwOk t u ls start s B) (h : GrAt M i (grF t u ls start busy lm s B past ahead)) {p n : Nat} (hp : canT (lts none 0 s) B p = some n) (hps : past.length ≤ 1000) {s' : Tree} {B' : List Br} (es : lts none 0 s' = outL n (lts none 0 s)) (eB : B' = outB n B) :
    m_Grown_take [.adr i, .d (.int p)] M = .ok (.d (.str ((B[n]?.map (·.w)).getD []))) (M.set i (grM (grF t u ls start busy lm s' B' (past ++ [stpD s B]) []))) := by
  have hlim := lim_eq
  obtain ⟨⟨c, j, e⟩, hl⟩ := canT_hp hp
  have hll : (lts none 0 s).length = s.exp.length := lts_len s none 0
  have hn := G.n
  have hb := G.b
  have hpl : p < (lts none 0 s).length := (List.getElem?_eq_some_iff.mp e).1
  have hnB := G.T.lown _ (List.mem_of_getElem? e) n rfl
  have n1 := is_number_i (p : Int) 0 ((s.exp.length : Int) - 1) M
  rw [show (decide ((0 : Int) ≤ (p : Int)) && decide ((p : Int) ≤ (s.exp.length : Int) - 1)) = true by simp; omega] at n1
  have f4 := h.fld (k := 4) (v := .d (.lst ((lts none 0 s).map (letD owN)))) rfl
  have f5 := h.fld (k := 5) (v := .d (.lst (B.map (birD owN)))) rfl
  have wo := wob_ok (L := lts none 0 s) (B := B) (n := n) (M := M) (by omega) hb
  have lo : (outB n B).length = B.length - 1 := by
    unfold outB
    simp
    omega
  have tt := turn_to_ok (s' := s') (B' := B') h (by rw [eB, lo]; omega) hps
  rw [es, eB] at tt
  have ha : atI ((lts none 0 s).map (letD owN)) (p : Int) = some (.tup [.str [c], .int n, .int j]) := atI_nat' (by rw [List.getElem?_map, e]; rfl)
  obtain ⟨b, hbn⟩ : ∃ b, B[n]? = some b := ⟨_, List.getElem?_eq_getElem hnB⟩
  have hab : atI (B.map (birD owN)) (n : Int) = some (.tup [.str [b.c], .str b.w, owN b.h.1, .int b.h.2]) := atI_nat' (by rw [List.getElem?_map, hbn]; rfl)
  have a1 : ∀ x1 x2 x3 : D, atI [x1, x2, x3] 1 = some x2 := fun _ _ _ => rfl
  have b1 : ∀ x1 x2 x3 x4 : D, atI [x1, x2, x3, x4] 1 = some x2 := fun _ _ _ _ => rfl
  have b2 : ∀ x1 x2 x3 x4 : D, atI [x1, x2, x3, x4] 2 = some x3 := fun _ _ _ _ => rfl
  have c2 := fun (y1 y3 y4 y5 : Option VD) => compL_mapA (turn := cTurn [6] (g_name 6) e_yes (e_op f_ix (e_var 6) (e_c (.int 2))) [some (.adr i), y1, some (.d (.int n)), y3, y4, y5, none]) (M := M) (birD owN) (fun b => owN b.h.1) B [] (fun b _ => by
    generalize B.map (birD owN) = BB at *
    unfold birD
    simp (disch := first | (simp; done) | omega) [ifl, ifL, b2]) (by simp; omega)
  simp only [List.nil_append] at c2
  have an := any_ow (e := owN) (n := n) (B := B) owN_eq
  have af : B.any (fun b => decide (b.h.1 = some n)) = false := by
    rw [List.any_eq_false]
    intro b hb
    simpa using hl b hb
  rw [af] at an
  have pq : D.plA 19 (B.map fun b => owN b.h.1) = true := plA_all fun x hx => by
    obtain ⟨y, _, rfl⟩ := List.mem_map.mp hx
    cases y.h.1 <;> rfl
  have isC := h.isC
  have ql : ∀ (x : D) (M : Mem), trim M.length (.ok (.d x) (M.set i (grM (grF t u ls start busy lm s' (outB n B) (past ++ [stpD s B]) [])))) = .ok (.d x) (M.set i (grM (grF t u ls start busy lm s' (outB n B) (past ++ [stpD s B]) []))) := fun x M => trim_same (by simp)
  have ll1 : ((lts none 0 s).map (letD owN)).length = s.exp.length := by simp [hll]
  rw [eB, hbn]
  unfold m_Grown_take
  rw [fnM_eq]
  unfold b_Grown_take
  generalize hM1 : M.set i (grM (grF t u ls start busy lm s' (outB n B) (past ++ [stpD s B]) [])) = M1 at *
  generalize (outL n (lts none 0 s)).map (letD owN) = LO at *
  generalize (outB n B).map (birD owN) = BO at *
  have eLL : (lts none 0 s).map (letD owN) = (lts none 0 s).map fun x => letD owN x := rfl
  generalize (lts none 0 s).map (letD owN) = LL at *
  generalize B.map (birD owN) = BB at *
  generalize (B.map fun b => owN b.h.1) = BX at *
  simp (disch := first | (simp; done) | omega) [ifl, ifL, n1, f4, f5, ll1, ha, a1, b1, owN, c2, an, pq, hab, wo, tt, isC]
  rw [← hM1]
  exact ql _ M
end
end G
namespace G
open Sg
open L2 (atI)
def fmtSK (r : Bool) (w : Nat) (x : Res VD) : Res VD := x.bind (f_fmtS r w)
@[simp] theorem e_fmtS_eq {r w m ρ M} : e_fmtS r w m ρ M = fmtSK r w (m ρ M) := nrfl rfl
@[simp] theorem fmtSK_s {r w s M} : fmtSK r w (.ok (.d (.str s)) M) = if s.length ≤ 100000 then .ok (.d (.str (padL r w s))) M else .fail := nrfl rfl
noncomputable def fmtNK (x : Res VD) : Res VD := x.bind f_fmtN
@[simp] theorem e_fmtN_eq {m ρ M} : e_fmtN m ρ M = fmtNK (m ρ M) := nrfl rfl
theorem fmtNK_i {n : Nat} {M} (h : n ≤ 1000000) : fmtNK (.ok (.d (.int n)) M) = .ok (.d (.str (padL true 4 (itoa n)))) M := by
  show gi (0 ≤ (n : Int) ∧ (n : Int) ≤ 1000000) _ _ = _
  rw [gi_pos ⟨by omega, by omega⟩]
theorem f_pad_ok {r : Bool} {a : List Nat} {n : Nat} {M} (h : n ≤ 1000) : f_pad r (.d (.str a)) (.d (.int n)) M = .ok (.d (.str (padL r n a))) M := by
  show gi (0 ≤ (n : Int) ∧ (n : Int) ≤ 1000) _ _ = _
  rw [gi_pos ⟨by omega, by omega⟩]
  rfl
def shN : Option Nat → List Nat
  | none => [45]
  | some o => itoa o
def colR (k : Nat) (b : Br) : List Nat := padL true 4 (itoa k) ++ [32] ++ [b.c] ++ [32] ++ padL false 3 b.w ++ [32] ++ padL true 4 (shN b.h.1) ++ [32] ++ itoa b.h.2
noncomputable def kCol : Sx := (s_seq (s_asg (e_if (e_asB (e_op (f_is false) (e_var 6) (e_c .non))) (e_c (.str [45])) (e_bi f_str (a_cons (e_var 6) a_nil))) (g_name 3))
    (s_expr (e_app (e_var 1) (e_fstr (j_cons (e_fmtN (e_var 2)) (j_cons (e_c (.str [32])) (j_cons (e_fmt (e_var 4)) (j_cons (e_c (.str [32])) (j_cons (e_fmtS false 3 (e_var 5)) (j_cons (e_c (.str [32])) (j_cons (e_fmtS true 4 (e_var 3)) (j_cons (e_c (.str [32])) (j_cons (e_fmt (e_var 7)) j_nil)))))))))))))
noncomputable def kDue : Sx := (s_seq (s_asg (e_if (e_asB (e_op f_lt (e_op f_ix (e_var 12) (e_c (.int 2))) (e_c (.int 0)))) (e_c (.str [45])) (e_bi f_str (a_cons (e_op f_ix (e_var 12) (e_c (.int 2))) a_nil))) (g_name 13))
    (s_expr (e_app (e_var 4) (e_op f_add (e_op f_add (e_op f_add (e_op f_add (e_op f_add (e_op f_add (e_op f_add (e_op f_add (e_m1 (f_pad true) (e_bi f_str (a_cons (e_var 11) a_nil)) (e_c (.int 4))) (e_c (.str [32]))) (e_op f_ix (e_var 12) (e_c (.int 0)))) (e_c (.str [32]))) (e_m1 (f_pad false) (e_op f_ix (e_var 12) (e_c (.int 1))) (e_c (.int 3)))) (e_c (.str [32]))) (e_m1 (f_pad true) (e_var 13) (e_c (.int 4)))) (e_c (.str [32]))) (e_bi f_str (a_cons (e_op f_ix (e_var 12) (e_c (.int 3))) a_nil))))))
theorem log_lt {n : Nat} (h : n < 64) : n.log2 < 1920 := by
  by_cases h0 : n = 0
  · subst h0
    decide
  · have : n.log2 < 6 := (Nat.log2_lt h0).mpr (by omega)
    omega
theorem shN_len {o : Option Nat} (h : ∀ k, o = some k → k < 64) : (shN o).length ≤ 20 := by
  cases o with
  | none => simp [shN]
  | some k => exact itoa_len2 _ (h k rfl)
theorem col_turn {a i k : Nat} {b : Br} {acc : List D} {x3 : Option VD} {M : Mem} (hM : M[i]? = some (.lst acc)) (ha : acc.length ≤ 100) (hk : k < 64) (hw : b.w.length ≤ 3) (ho : ∀ n, b.h.1 = some n → n < 64) (hq : b.h.2 < 64) :
    kCol [some (.adr a), some (.adr i), some (.d (.int k)), x3, some (.d (.str [b.c])), some (.d (.str b.w)), some (.d (owN b.h.1)), some (.d (.int b.h.2))] M = .nx [some (.adr a), some (.adr i), some (.d (.int k)), some (.d (.str (shN b.h.1))), some (.d (.str [b.c])), some (.d (.str b.w)), some (.d (owN b.h.1)), some (.d (.int b.h.2))] (M.set i (.lst (acc ++ [.str (colR k b)]))) := by
  have hlim := lim_eq
  have e1 : ∀ M, fmtNK (.ok (.d (.int k)) M) = .ok (.d (.str (padL true 4 (itoa k)))) M := fun M => fmtNK_i (by omega)
  have l1 := fieldT_len (right := true) (w := 4) (a := itoa k)
  have l2 := fieldT_len (right := false) (w := 3) (a := b.w)
  have l3 := fieldT_len (right := true) (w := 4) (a := shN b.h.1)
  have i1 := itoa_len2 k hk
  have i2 := itoa_len2 _ hq
  have i3 := shN_len ho
  have g1 : b.h.2.log2 < 1920 := log_lt hq
  have es : ∀ (Y1 Y2 Y4 Y5 Y7 : Option VD), (e_if (e_asB (e_op (f_is false) (e_var 6) (e_c .non))) (e_c (.str [45])) (e_bi f_str (a_cons (e_var 6) a_nil))) [Y1, Y2, some (.d (.int k)), x3, Y4, Y5, some (.d (owN b.h.1)), Y7] M = .ok (.d (.str (shN b.h.1))) M := fun Y1 Y2 Y4 Y5 Y7 => by
    cases e : b.h.1 with
    | none => simp [owN, shN]
    | some o =>
      have g2 : o.log2 < 1920 := log_lt (ho o e)
      simp [owN, shN, gi_pos g2]
  unfold kCol colR
  have b1 : (padL true 4 (itoa k)).length ≤ 30 := by rw [l1]; omega
  have b2 : (padL false 3 b.w).length ≤ 30 := by rw [l2]; omega
  have b3 : (padL true 4 (shN b.h.1)).length ≤ 30 := by rw [l3]; omega
  clear l1 l2 l3
  generalize owN b.h.1 = OW at *
  have g1' : ∀ (x y : Res VD), gi (b.h.2.log2 < 1920) x y = x := fun x y => gi_pos g1
  simp (disch := first | (simp; done) | (simp; omega) | omega) [ifl, ifL, e1, hM, es, g1', -e_if_eq]
theorem due_turn {i k : Nat} {b : Br} {acc : List D} {x0 x1 x2 x3 x5 x6 x7 x8 x9 x10 x13 : Option VD} {M : Mem} (hM : M[i]? = some (.lst acc)) (ha : acc.length ≤ 100) (hk : k < 64) (hw : b.w.length ≤ 3) (ho : ∀ n, b.h.1 = some n → n < 64) (hq : b.h.2 < 64) :
    kDue [x0, x1, x2, x3, some (.adr i), x5, x6, x7, x8, x9, x10, some (.d (.int k)), some (.d (birD owL b)), x13] M = .nx [x0, x1, x2, x3, some (.adr i), x5, x6, x7, x8, x9, x10, some (.d (.int k)), some (.d (birD owL b)), some (.d (.str (shN b.h.1)))] (M.set i (.lst (acc ++ [.str (colR k b)]))) := by
  have hlim := lim_eq
  have e1 : ∀ (r : Bool) (a : List Nat) M, f_pad r (.d (.str a)) (.d (.int 4)) M = .ok (.d (.str (padL r 4 a))) M := fun r a M => f_pad_ok (n := 4) (by decide)
  have e2 : ∀ (r : Bool) (a : List Nat) M, f_pad r (.d (.str a)) (.d (.int 3)) M = .ok (.d (.str (padL r 3 a))) M := fun r a M => f_pad_ok (n := 3) (by decide)
  have l1 := fieldT_len (right := true) (w := 4) (a := itoa k)
  have l2 := fieldT_len (right := false) (w := 3) (a := b.w)
  have l3 := fieldT_len (right := true) (w := 4) (a := shN b.h.1)
  have i1 := itoa_len2 k hk
  have i2 := itoa_len2 _ hq
  have i3 := shN_len ho
  have g1 : b.h.2.log2 < 1920 := log_lt hq
  have g3 : k.log2 < 1920 := log_lt hk
  have a0 : ∀ x1 x2 x3 x4 : D, atI [x1, x2, x3, x4] 0 = some x1 := fun _ _ _ _ => rfl
  have a1 : ∀ x1 x2 x3 x4 : D, atI [x1, x2, x3, x4] 1 = some x2 := fun _ _ _ _ => rfl
  have a2 : ∀ x1 x2 x3 x4 : D, atI [x1, x2, x3, x4] 2 = some x3 := fun _ _ _ _ => rfl
  have a3 : ∀ x1 x2 x3 x4 : D, atI [x1, x2, x3, x4] 3 = some x4 := fun _ _ _ _ => rfl
  have es : (e_if (e_asB (e_op f_lt (e_op f_ix (e_var 12) (e_c (.int 2))) (e_c (.int 0)))) (e_c (.str [45])) (e_bi f_str (a_cons (e_op f_ix (e_var 12) (e_c (.int 2))) a_nil))) [x0, x1, x2, x3, some (.adr i), x5, x6, x7, x8, x9, x10, some (.d (.int k)), some (.d (birD owL b)), x13] M = .ok (.d (.str (shN b.h.1))) M := by
    unfold birD
    cases e : b.h.1 with
    | none => simp (disch := first | (simp; done) | omega) [ifl, ifL, a2, owL, owI, shN]
    | some o =>
      have g2 : o.log2 < 1920 := log_lt (ho o e)
      have hno : ¬ ((o : Int) < 0) := by omega
      simp (disch := first | (simp; done) | omega) [ifl, ifL, a2, owL, owI, shN, gi_pos g2, hno]
  have g1' : ∀ (x y : Res VD), gi (b.h.2.log2 < 1920) x y = x := fun x y => gi_pos g1
  have g3' : ∀ (x y : Res VD), gi (k.log2 < 1920) x y = x := fun x y => gi_pos g3
  unfold kDue colR
  unfold birD at es ⊢
  have b1 : (padL true 4 (itoa k)).length ≤ 30 := by rw [l1]; omega
  have b2 : (padL false 3 b.w).length ≤ 30 := by rw [l2]; omega
  have b3 : (padL true 4 (shN b.h.1)).length ≤ 30 := by rw [l3]; omega
  clear l1 l2 l3
  generalize owL b.h.1 = OW at *
  simp (disch := first | (simp; done) | (simp; omega) | omega) [ifl, ifL, e1, e2, hM, es, g1', g3', a0, a1, a2, a3, -e_if_eq]
theorem set_own {α : Type} {M : List α} {i : Nat} {x : α} (h : M[i]? = some x) : M.set i x = M := by
  refine List.ext_getElem? fun j => ?_
  by_cases e : i = j
  · subst e
    rw [List.getElem?_set_self (List.getElem?_eq_some_iff.mp h).1, h]
  · rw [List.getElem?_set_ne e]
structure ColOk (b : Br) : Prop where
  w : b.w.length ≤ 3
  o : ∀ n, b.h.1 = some n → n < 64
  q : b.h.2 < 64
def colF (k : Nat) (bs : List Br) : List D := mapFrom (fun k b => D.str (colR k b)) k bs
theorem col_loop {a i : Nat} : ∀ (bs : List Br) (k : Nat) (acc : List D) (x2 x3 x4 x5 x6 x7 : Option VD) (M : Mem), (∀ b ∈ bs, ColOk b) → M[i]? = some (.lst acc) → acc.length + bs.length ≤ 100 → k + bs.length ≤ 64 → ∃ y2 y3 y4 y5 y6 y7,
    forL (g_tup 2 (g_cons (g_name 2) (g_cons (g_tup 4 (g_cons (g_name 4) (g_cons (g_name 5) (g_cons (g_name 6) (g_cons (g_name 7) g_nil))))) g_nil))) kCol (enumL (bs.map (birD owN)) k) [some (.adr a), some (.adr i), x2, x3, x4, x5, x6, x7] M = .nx [some (.adr a), some (.adr i), y2, y3, y4, y5, y6, y7] (M.set i (.lst (acc ++ colF k bs)))
  | [], k, acc, x2, x3, x4, x5, x6, x7, M, _, hM, _, _ => ⟨x2, x3, x4, x5, x6, x7, by
    show Out.nx _ _ = Out.nx _ _
    rw [show colF k [] = [] from rfl, List.append_nil, set_own hM]⟩
  | b :: bs, k, acc, x2, x3, x4, x5, x6, x7, M, hb, hM, ha, hk => by
    simp only [List.length_cons] at ha hk
    have hc := hb b List.mem_cons_self
    have e := col_turn (a := a) (i := i) (k := k) (b := b) (acc := acc) (x3 := x3) hM (by omega) (by omega) hc.w hc.o hc.q
    have hi : i < M.length := (List.getElem?_eq_some_iff.mp hM).1
    have hM2 : (M.set i (.lst (acc ++ [D.str (colR k b)])))[i]? = some (.lst (acc ++ [D.str (colR k b)])) := List.getElem?_set_self hi
    obtain ⟨y2, y3, y4, y5, y6, y7, e2⟩ := col_loop bs (k + 1) _ (some (.d (.int k))) (some (.d (.str (shN b.h.1)))) (some (.d (.str [b.c]))) (some (.d (.str b.w))) (some (.d (owN b.h.1))) (some (.d (.int b.h.2))) _ (fun b hb' => hb b (List.mem_cons_of_mem _ hb')) hM2 (by simp; omega) (by omega)
    refine ⟨y2, y3, y4, y5, y6, y7, ?_⟩
    rw [List.map_cons, enumL, forL_cons]
    have g : (g_tup 2 (g_cons (g_name 2) (g_cons (g_tup 4 (g_cons (g_name 4) (g_cons (g_name 5) (g_cons (g_name 6) (g_cons (g_name 7) g_nil))))) g_nil))) (.d (.tup [.int k, birD owN b])) [some (.adr a), some (.adr i), x2, x3, x4, x5, x6, x7] = some [some (.adr a), some (.adr i), some (.d (.int k)), x3, some (.d (.str [b.c])), some (.d (.str b.w)), some (.d (owN b.h.1)), some (.d (.int b.h.2))] := by
      unfold birD
      simp
    rw [g, flK_ok, e, flK2_nx, e2, List.set_set]
    rw [show colF k (b :: bs) = D.str (colR k b) :: colF (k + 1) bs from rfl]
    simp
theorem due_loop {i : Nat} {x0 x1 x2 x3 x5 x6 x7 x8 x9 x10 : Option VD} : ∀ (bs : List Br) (k : Nat) (acc : List D) (x11 x12 x13 : Option VD) (M : Mem), (∀ b ∈ bs, ColOk b) → M[i]? = some (.lst acc) → acc.length + bs.length ≤ 100 → k + bs.length ≤ 64 → ∃ y11 y12 y13,
    forL (g_tup 2 (g_cons (g_name 11) (g_cons (g_name 12) g_nil))) kDue (enumL (bs.map (birD owL)) k) [x0, x1, x2, x3, some (.adr i), x5, x6, x7, x8, x9, x10, x11, x12, x13] M = .nx [x0, x1, x2, x3, some (.adr i), x5, x6, x7, x8, x9, x10, y11, y12, y13] (M.set i (.lst (acc ++ colF k bs)))
  | [], k, acc, x11, x12, x13, M, _, hM, _, _ => ⟨x11, x12, x13, by
    show Out.nx _ _ = Out.nx _ _
    rw [show colF k [] = [] from rfl, List.append_nil, set_own hM]⟩
  | b :: bs, k, acc, x11, x12, x13, M, hb, hM, ha, hk => by
    simp only [List.length_cons] at ha hk
    have hc := hb b List.mem_cons_self
    have e := due_turn (x0 := x0) (x1 := x1) (x2 := x2) (x3 := x3) (x5 := x5) (x6 := x6) (x7 := x7) (x8 := x8) (x9 := x9) (x10 := x10) (i := i) (k := k) (b := b) (acc := acc) (x13 := x13) hM (by omega) (by omega) hc.w hc.o hc.q
    have hi : i < M.length := (List.getElem?_eq_some_iff.mp hM).1
    have hM2 : (M.set i (.lst (acc ++ [D.str (colR k b)])))[i]? = some (.lst (acc ++ [D.str (colR k b)])) := List.getElem?_set_self hi
    obtain ⟨y11, y12, y13, e2⟩ := due_loop (x0 := x0) (x1 := x1) (x2 := x2) (x3 := x3) (x5 := x5) (x6 := x6) (x7 := x7) (x8 := x8) (x9 := x9) (x10 := x10) bs (k + 1) _ (some (.d (.int k))) (some (.d (birD owL b))) (some (.d (.str (shN b.h.1)))) _ (fun b hb' => hb b (List.mem_cons_of_mem _ hb')) hM2 (by simp; omega) (by omega)
    refine ⟨y11, y12, y13, ?_⟩
    rw [List.map_cons, enumL, forL_cons]
    have g : (g_tup 2 (g_cons (g_name 11) (g_cons (g_name 12) g_nil))) (.d (.tup [.int k, birD owL b])) [x0, x1, x2, x3, some (.adr i), x5, x6, x7, x8, x9, x10, x11, x12, x13] = some [x0, x1, x2, x3, some (.adr i), x5, x6, x7, x8, x9, x10, some (.d (.int k)), some (.d (birD owL b)), x13] := by
      simp
    rw [g, flK_ok, e, flK2_nx, e2, List.set_set]
    rw [show colF k (b :: bs) = D.str (colR k b) :: colF (k + 1) bs from rfl]
    simp
section
variable {t u : List Nat} {ls : List Ln} {start : List Nat} {s : Tree} {B : List Br}
theorem births_of {M : Mem} {i : Nat} {busy : Bool} {lm : Int} {past ahead : List D} (h : GrAt M i (grF t u ls start busy lm s B past ahead)) (hb : B.length ≤ 1000) : m_Grown_births [.adr i] M = .ok (.d (.lst (B.map (birD owN)))) M := by
  have hlim := lim_eq
  have f5 := h.fld (k := 5) (v := .d (.lst (B.map (birD owN)))) rfl
  have l5 : (B.map (birD owN)).length = B.length := by simp
  unfold m_Grown_births
  rw [fnM_eq]
  unfold b_Grown_births
  generalize B.map (birD owN) = BB at *
  simp (disch := first | (simp; done) | omega) [ifl, ifL, f5, l5]
theorem colOk_of (T : TOk (wQ ls) start s B) (K : BOk t u B) (hB : B.length ≤ 60) (hn : start.length ≤ 16) : ∀ b ∈ B, ColOk b := fun b hb => by
  obtain ⟨n, hn'⟩ := List.getElem?_of_mem hb
  refine ⟨K.w b hb, fun o e => ?_, ?_⟩
  · have := T.bown n b hn' o e
    have := (List.getElem?_eq_some_iff.mp hn').1
    omega
  · have := (T.blab b hb).hm
    unfold HmOk at this
    cases e : b.h.1 with
    | none =>
      rw [e] at this
      have : b.h.2 ≤ start.length := this
      omega
    | some o =>
      rw [e] at this
      obtain ⟨b', h1, h2⟩ := (this : ∃ b', B[o]? = some b' ∧ b.h.2 ≤ b'.w.length)
      have := K.w b' (List.mem_of_getElem? h1)
      omega
theorem col_eq : b_columns = (s_seq (s_asg (e_lstO a_nil) (g_name 1))
    (s_seq (s_for (i_enumA (a_cons (e_meth 50 (ar 1 m_Grown_births) (e_var 0) a_nil) a_nil)) (g_tup 2 (g_cons (g_name 2) (g_cons (g_tup 4 (g_cons (g_name 4) (g_cons (g_name 5) (g_cons (g_name 6) (g_cons (g_name 7) g_nil))))) g_nil))) kCol)
    (s_frz 1 (s_ret (e_var 1))))) := rfl
theorem colo_eq : b_columns_o = (s_seq (s_asg (e_lstO a_nil) (g_name 1))
    (s_seq (s_for (i_enumA (a_cons (e_meth 50 (ar 1 m_Grown_births) (e_var 0) a_nil) a_nil)) (g_tup 2 (g_cons (g_name 2) (g_cons (g_tup 4 (g_cons (g_name 4) (g_cons (g_name 5) (g_cons (g_name 6) (g_cons (g_name 7) g_nil))))) g_nil))) kCol)
    (s_ret (e_var 1)))) := rfl
theorem columns_ok {M : Mem} {i : Nat} {busy : Bool} {lm : Int} {past ahead : List D} (h : GrAt M i (grF t u ls start busy lm s B past ahead)) (hB : B.length ≤ 60) (hc : ∀ b ∈ B, ColOk b) (hM : Lst M) : m_columns [.adr i] M = .ok (.d (.lst (colF 0 B))) M := by
  have h' := h.app [.lst []]
  have bi := births_of h' (by omega)
  have ic := h'.isC
  obtain ⟨y2, y3, y4, y5, y6, y7, e⟩ := col_loop (a := i) (i := M.length) B 0 [] none none none none none none (M ++ [.lst []]) hc (by simp) (by simp; omega) (by omega)
  have e0 : (M ++ [MO.lst []]).set M.length (.lst ([] ++ colF 0 B)) = M ++ [.lst (colF 0 B)] := by simp
  rw [e0] at e
  unfold m_columns
  rw [fnM_eq, col_eq]
  generalize kCol = KC at *
  generalize B.map (birD owN) = BB at *
  simp [bi, ic, e]
  exact trimL hM
theorem columns_o_ok {M : Mem} {i : Nat} {busy : Bool} {lm : Int} {past ahead : List D} (h : GrAt M i (grF t u ls start busy lm s B past ahead)) (hB : B.length ≤ 60) (hc : ∀ b ∈ B, ColOk b) (hM : Lst M) : m_columns_o [.adr i] M = .ok (.adr M.length) (M ++ [.lst (colF 0 B)]) := by
  have h' := h.app [.lst []]
  have bi := births_of h' (by omega)
  have ic := h'.isC
  obtain ⟨y2, y3, y4, y5, y6, y7, e⟩ := col_loop (a := i) (i := M.length) B 0 [] none none none none none none (M ++ [.lst []]) hc (by simp) (by simp; omega) (by omega)
  have e0 : (M ++ [MO.lst []]).set M.length (.lst ([] ++ colF 0 B)) = M ++ [.lst (colF 0 B)] := by simp
  rw [e0] at e
  unfold m_columns_o
  rw [fnM_eq, colo_eq]
  generalize kCol = KC at *
  generalize B.map (birD owN) = BB at *
  simp [bi, ic, e]
  unfold trim vLt
  simp
end
end G
namespace G
open Sg
open L2 (atI)
section
variable {t u : List Nat} {ls : List Ln} {start : List Nat} {s : Tree} {B : List Br}
theorem some_step_ok {b : Bag} (hb : BagOk b) (hu0 : u ≠ []) (hu4 : u.length ≤ 4) (hn : s.exp.length ≤ 100) (Mr : Mem) : ∃ p c b', m__law_some_step [.adr 0, .d (specD t u ls), .d (stD owL s B)] (mo b :: Mr) = .ok (.d (stepD (p, c))) (mo b' :: Mr) ∧ BagOk b' ∧ p ≤ s.exp.length ∧ c ∈ u := by
  have hlim := lim_eq
  have hll : ((lts none 0 s).map (letD owL)).length = s.exp.length := by simp [lts_len]
  obtain ⟨v, b1, e1, hb1, hv0, hv1⟩ := draw_ok hb (many := (s.exp.length : Int) + 1) (by omega) (by omega) Mr
  obtain ⟨c, b2, e2, hb2, hc⟩ := ofs_ok hb1 hu0 (by omega) Mr
  obtain ⟨p, rfl⟩ := Int.eq_ofNat_of_zero_le hv0
  refine ⟨p, c, b2, ?_, hb2, by omega, hc⟩
  unfold m__law_some_step
  rw [fnM_eq]
  unfold b__law_some_step specD stD stepD
  generalize (lts none 0 s).map (letD owL) = LL at *
  generalize B.map (birD owL) = BB at *
  generalize ls.map Ln.d = LD at *
  have t0 : ∀ x1 x2 : D, atI [x1, x2] 0 = some x1 := fun _ _ => rfl
  have t1 : ∀ x1 x2 x3 : D, atI [x1, x2, x3] 1 = some x2 := fun _ _ _ => rfl
  simp (disch := first | (simp; done) | omega) [ifl, ifL, t0, t1, hll, e1, e2]
  exact trim_same (by simp)
theorem try_take_ok {b : Bag} (hb : BagOk b) {busy : Bool} {lm : Int} {past ahead : List D} (G : GwOk t u ls start s B) (hps : past.length ≤ 1000) :
    ∃ (s' : Tree) (B' : List Br) (b' : Bag) (past' ahead' : List D), m__law_try_take [.adr 0, .adr 1, .d (stD owL s B)] [mo b, grM (grF t u ls start busy lm s B past ahead)] = .ok (.d (stD owL s' B')) [mo b', grM (grF t u ls start busy lm s' B' past' ahead')] ∧ BagOk b' ∧ GwOk t u ls start s' B' ∧ s'.exp.length ≤ s.exp.length ∧ B'.length ≤ B.length ∧ past'.length ≤ past.length + 1 := by
  have hlim := lim_eq
  have hn := G.n
  have hB := G.b
  have hll0 : (lts none 0 s).length = s.exp.length := lts_len s none 0
  have hll : ((lts none 0 s).map (letD owL)).length = s.exp.length := by simp [hll0]
  obtain ⟨v, b1, e1, hb1, hv0, hv1⟩ := draw_ok hb (many := (s.exp.length : Int) + 1) (by omega) (by omega) [grM (grF t u ls start busy lm s B past ahead)]
  obtain ⟨p, rfl⟩ := Int.eq_ofNat_of_zero_le hv0
  have du := fun M => due_ok (L := lts none 0 s) (B := B) (p := p) (M := M) (by omega) hB (by omega) G.T.lown
  have t0 : ∀ x1 x2 : D, atI [x1, x2] 0 = some x1 := fun _ _ => rfl
  have t1 : ∀ x1 x2 x3 : D, atI [x1, x2, x3] 1 = some x2 := fun _ _ _ => rfl
  unfold m__law_try_take
  rw [fnM_eq]
  unfold b__law_try_take
  cases h : canT (lts none 0 s) B p with
  | none =>
    obtain ⟨c, hc, ed⟩ := dueT_no h
    rw [ed] at du
    refine ⟨s, B, b1, past, ahead, ?_, hb1, G, Nat.le_refl _, Nat.le_refl _, by omega⟩
    have st : stD owL s B = .tup [.lst ((lts none 0 s).map (letD owL)), .lst (B.map (birD owL))] := rfl
    rw [st]
    have hc2 : D.eqv (.str c) (.str []) = false := by simpa [D.eqv] using hc
    generalize (lts none 0 s).map (letD owL) = LL at *
    generalize B.map (birD owL) = BB at *
    generalize grF t u ls start busy lm s B past ahead = GG at *
    simp (disch := first | (simp; done) | omega) [ifl, ifL, t0, hll, e1, du, hc2]
    exact trim_same (by simp)
  | some n =>
    have ed := dueT_ok h
    rw [ed] at du
    obtain ⟨⟨c, j, e⟩, hl⟩ := canT_hp h
    have hnB := G.T.lown _ (List.mem_of_getElem? e) n rfl
    obtain ⟨ss2, G2, es, eB⟩ := take_gw G hnB hl
    have hA : GrAt [mo b1, grM (grF t u ls start busy lm s B past ahead)] 1 (grF t u ls start busy lm s B past ahead) := rfl
    have tk := take_ok G hA h hps (s' := (growT (wQ ls) start ss2).1) (B' := (growT (wQ ls) start ss2).2) es eB
    have ta := fun M => taken_ok (L := lts none 0 s) (B := B) (n := n) (M := M) (by omega) hB hnB
    have ic := hA.isC
    have hlx : (lts none 0 (growT (wQ ls) start ss2).1).length = (growT (wQ ls) start ss2).1.exp.length := lts_len _ none 0
    have l1 : (growT (wQ ls) start ss2).1.exp.length ≤ s.exp.length := by
      rw [← hlx, es, List.length_map]
      have := List.length_filter_le (fun x : Lt => decide (x.2.1 ≠ some n)) (lts none 0 s)
      omega
    have l2 : (growT (wQ ls) start ss2).2.length ≤ B.length := by
      rw [eB]
      simp
      omega
    refine ⟨_, _, b1, past ++ [stpD s B], [], ?_, hb1, G2, l1, l2, by simp⟩
    have st : stD owL s B = .tup [.lst ((lts none 0 s).map (letD owL)), .lst (B.map (birD owL))] := rfl
    have st2 : stD owL (growT (wQ ls) start ss2).1 (growT (wQ ls) start ss2).2 = .tup [.lst ((outL n (lts none 0 s)).map (letD owL)), .lst ((outB n B).map (birD owL))] := by
      unfold stD
      rw [es, eB]
      rfl
    rw [st, st2]
    have hx : atI ((lts none 0 s).map (letD owL)) (p : Int) = some (.tup [.str [c], .int n, .int j]) := atI_nat' (by rw [List.getElem?_map, e]; rfl)
    generalize (outL n (lts none 0 s)).map (letD owL) = LO at *
    generalize (outB n B).map (birD owL) = BO at *
    generalize (lts none 0 s).map (letD owL) = LL at *
    generalize B.map (birD owL) = BB at *
    generalize grF t u ls start busy lm s B past ahead = GG at *
    generalize grF t u ls start busy lm (growT (wQ ls) start ss2).1 (growT (wQ ls) start ss2).2 (past ++ [stpD s B]) [] = G3 at *
    simp only [List.set_cons_succ, List.set_cons_zero] at tk
    simp (disch := first | (simp; done) | omega) [ifl, ifL, t0, t1, hll, e1, du, D.eqv, ic, tk, hx, ta]
    exact trim_same (by simp)
end
end G
namespace G
open Sg
open PySem PySem.Spec PyProof.Rows L2 TL
noncomputable def kT : Sx := (s_seq (s_asg (e_call 3 m__law_some_step (a_cons (e_var 1) (a_cons (e_var 2) (a_cons (e_var 9) a_nil)))) (g_name 10))
    (s_seq (s_expr (e_meth 50 (ar 3 m_Grown_put) (e_var 8) (a_cons (e_op f_ix (e_var 10) (e_c (.int 0))) (a_cons (e_op f_ix (e_var 10) (e_c (.int 1))) a_nil))))
    (s_seq (s_asg (e_call 3 m__law_put (a_cons (e_var 2) (a_cons (e_var 9) (a_cons (e_var 10) a_nil)))) (g_name 9))
    (s_if (e_asB (e_op f_eq (e_call 2 m__law_draw (a_cons (e_var 1) (a_cons (e_c (.int 4)) a_nil))) (e_c (.int 0)))) (s_asg (e_call 3 m__law_try_take (a_cons (e_var 1) (a_cons (e_var 8) (a_cons (e_var 9) a_nil)))) (g_name 9)) s_skip))))
section
variable {t u : List Nat} {ls : List Ln} {start : List Nat} {s : Tree} {B : List Br}
theorem turn71 {b : Bag} (hb : BagOk b) (G : GwOk t u ls start s B) (hu0 : u ≠ []) (hu4 : u.length ≤ 4) {past ahead : List D} {j : Nat} (hj : j ≤ 19) (hn : s.exp.length ≤ 3 + 3 * j) (hB : B.length ≤ j) (hps : past.length ≤ 2 * j) {x0 x3 x4 x5 x6 x7 x10 x11 x12 x13 : Option VD} :
    ∃ (s' : Tree) (B' : List Br) (b' : Bag) (past' ahead' : List D) (y10 : Option VD), kT [x0, some (.adr 0), some (.d (specD t u ls)), x3, x4, x5, x6, x7, some (.adr 1), some (.d (stD owL s B)), x10, x11, x12, x13] [mo b, grM (grF t u ls start false 99 s B past ahead)] =
      .nx [x0, some (.adr 0), some (.d (specD t u ls)), x3, x4, x5, x6, x7, some (.adr 1), some (.d (stD owL s' B')), y10, x11, x12, x13] [mo b', grM (grF t u ls start false 99 s' B' past' ahead')] ∧ BagOk b' ∧ GwOk t u ls start s' B' ∧ s'.exp.length ≤ 3 + 3 * (j + 1) ∧ B'.length ≤ j + 1 ∧ past'.length ≤ 2 * (j + 1) := by
  have hlim := lim_eq
  obtain ⟨p, c, b1, e1, hb1, hp, hc⟩ := some_step_ok (ls := ls) (s := s) (B := B) (t := t) hb hu0 hu4 (by omega) [grM (grF t u ls start false 99 s B past ahead)]
  have hM : Lst [mo b1, grM (grF t u ls start false 99 s B past ahead)] := fun m hm => by
    simp only [List.mem_cons, List.not_mem_nil, or_false] at hm
    rcases hm with rfl | rfl <;> rfl
  have hl1 : (putT (wQ ls) (s, B) (p, c)).1.exp.length ≤ s.exp.length + 3 := by
    rw [putT_exp G.T hp]
    exact behR_len G.hl _ _
  have hA : GrAt [mo b1, grM (grF t u ls start false 99 s B past ahead)] 1 (grF t u ls start false 99 s B past ahead) := rfl
  obtain ⟨w, past1, ahead1, e2, hp1, -⟩ := put_ok hM G hA hp hc (by omega) (.inl (by omega))
  have lp := fun M => law_put_ok (t := t) (u := u) G.hl G.T (x := (p, c)) hp (by omega) (by omega) (M := M)
  have G1 := G.step (x := (p, c)) hp hc (by omega) (by omega)
  have hB1 := step_B (W := wQ ls) (s := s) (B := B) (x := (p, c))
  generalize hs1 : (putT (wQ ls) (s, B) (p, c)).1 = s1 at *
  generalize hB1' : (putT (wQ ls) (s, B) (p, c)).2 = B1 at *
  obtain ⟨v, b2, e3, hb2, hv0, hv1⟩ := draw_ok hb1 (many := 4) (by omega) (by omega) [grM (grF t u ls start false 99 s1 B1 past1 ahead1)]
  obtain ⟨s2, B2, b3, past2, ahead2, e4, hb3, G2, h1, h2, h3⟩ := try_take_ok hb2 (busy := false) (lm := 99) (past := past1) (ahead := ahead1) G1 (by omega)
  have ic := hA.isC
  have a0 : ∀ x1 x2 : D, atI [x1, x2] 0 = some x1 := fun _ _ => rfl
  have a1 : ∀ x1 x2 : D, atI [x1, x2] 1 = some x2 := fun _ _ => rfl
  simp only [List.set_cons_succ, List.set_cons_zero] at e2
  unfold kT
  unfold stepD at e1 lp
  by_cases hv : v = 0
  · refine ⟨s2, B2, b3, past2, ahead2, some (.d (stepD (p, c))), ?_, hb3, G2, by omega, by omega, by omega⟩
    subst hv
    unfold stepD
    generalize stD owL s2 B2 = S2 at *
    generalize stD owL s1 B1 = S1 at *
    generalize stD owL s B = S0 at *
    generalize specD t u ls = SP at *
    generalize grF t u ls start false 99 s B past ahead = F0 at *
    generalize grF t u ls start false 99 s1 B1 past1 ahead1 = F1 at *
    generalize grF t u ls start false 99 s2 B2 past2 ahead2 = F2 at *
    simp (disch := first | (simp; done) | omega) [ifl, ifL, e1, e2, lp, e3, e4, ic, a0, a1, D.eqv]
  · refine ⟨s1, B1, b2, past1, ahead1, some (.d (stepD (p, c))), ?_, hb2, G1, by omega, by omega, by omega⟩
    have hv2 : (v == 0) = false := by simpa using hv
    unfold stepD
    generalize stD owL s1 B1 = S1 at *
    generalize stD owL s B = S0 at *
    generalize specD t u ls = SP at *
    generalize grF t u ls start false 99 s B past ahead = F0 at *
    generalize grF t u ls start false 99 s1 B1 past1 ahead1 = F1 at *
    simp (disch := first | (simp; done) | omega) [ifl, ifL, e1, e2, lp, e3, e4, ic, a0, a1, D.eqv, hv2, hv]
theorem make99 (hr : ∀ x ∈ start, x ∈ t) (hn : start.length ≤ 16) {M : Mem} {ρ : Env} (h6 : ρ[6]? = some (some (.d (bookD t u ls)))) (h7 : ρ[7]? = some (some (.d (.str start)))) : e_makeKO 50 2 m_Grown___init__ (a_cons (e_var 6) (a_cons (e_var 7) a_nil)) (e_c (.int 99)) ρ M = .ok (.adr M.length) (M ++ [grM (grF t u ls start false 99 (fresh none 0 60 start 62) [] [] [])]) := by
  have e := gr_initL (t := t) (u := u) (ls := ls) (lm := 99) (by decide) (by decide) hr hn (M := M)
  have ea : (a_cons (e_var 6) (a_cons (e_var 7) a_nil)) ρ M = .ok [.d (bookD t u ls), .d (.str start)] M := by
    simp [h6, h7]
  unfold e_makeKO
  rw [ea]
  show (mkI 50 m_Grown___init__ [.d (bookD t u ls), .d (.str start), .d (.int 99)] M).bind _ = _
  unfold mkI
  have e' : m_Grown___init__ (VD.adr M.length :: [.d (bookD t u ls), .d (.str start), .d (.int 99)]) (M ++ [.ins 50 []]) = _ := e
  rw [e']
  rfl
end
theorem colF_mem : ∀ (bs : List Br) (k : Nat) (x : D), x ∈ colF k bs → ∃ j b, b ∈ bs ∧ j < k + bs.length ∧ x = .str (colR j b)
  | [], k, x, h => by simp [colF, mapFrom] at h
  | b :: bs, k, x, h => by
    rw [show colF k (b :: bs) = D.str (colR k b) :: colF (k + 1) bs from rfl] at h
    rcases List.mem_cons.mp h with rfl | h
    · exact ⟨k, b, List.mem_cons_self, by simp, rfl⟩
    · obtain ⟨j, b', h1, h2, h3⟩ := colF_mem bs (k + 1) x h
      exact ⟨j, b', List.mem_cons_of_mem _ h1, by simp; omega, h3⟩
theorem colF_len : ∀ (bs : List Br) (k : Nat), (colF k bs).length = bs.length
  | [], k => rfl
  | b :: bs, k => by
    rw [show colF k (b :: bs) = D.str (colR k b) :: colF (k + 1) bs from rfl, List.length_cons, colF_len bs, List.length_cons]
theorem law_true (ns : List Int) (h : ns.length ≤ 63) : ∃ M, m_law [.d (.scr ns)] [] = .ok (.d (.bl true)) M := by
  have hlim := lim_eq
  unfold m_law
  apply law_end
  unfold b_law
  obtain ⟨b, e0, hb⟩ := open_ok ns h
  obtain ⟨t, u, ls, b1, e1, hb1, k, hn, hl, -, -⟩ := some_book_ok hb (s0 := 3) (s1 := 2) (s2 := 5) (s3 := 3) (by omega) (by omega) (by omega) (by omega) Lst.nil
  simp at e1
  have h6 := k.t6
  have h4 := k.u4
  have ht0 : t ≠ [] := fun e => by have := k.t1; rw [e] at this; simp at this
  have hu0 : u ≠ [] := fun e => by have := k.u1; rw [e] at this; simp at this
  have M1 : Lst [mo b1] := Lst.cons Lst.nil
  obtain ⟨start, b3, e3, hb3, hr, hrl⟩ := string_ok hb1 ht0 (by omega) (most := 3) (by omega) Lst.nil
  simp at e3
  have G0 : GwOk t u ls start (fresh none 0 60 start 62) [] := gw_start k hl hr (by omega)
  have lb := fun M => law_begin_ok (s := start) (by omega) (M := M)
  have m99 := fun (x8 x9 x10 x11 x12 x13 : Option VD) => make99 (t := t) (u := u) (ls := ls) hr (by omega) (M := [mo b3]) (ρ := [some (.d (.scr ns)), some (.adr 0), some (.d (specD t u ls)), none, none, none, some (.d (bookD t u ls)), some (.d (.str start)), x8, x9, x10, x11, x12, x13]) rfl rfl
  obtain ⟨v, b4, e4, hb4, hv0, hv1⟩ := draw_ok hb3 (many := 19) (by omega) (by omega) [grM (grF t u ls start false 99 (fresh none 0 60 start 62) [] [] [])]
  obtain ⟨q, rfl⟩ := Int.eq_ofNat_of_zero_le hv0
  have rk : ∀ M, rngK1 (.ok [.d (.int (2 + (q : Int)))] M) = .ok ((List.range' 0 (2 + q)).map fun (i : Nat) => D.int i) M := fun M => by
    have := rngK1_nat (n := 2 + q) (M := M) (by omega)
    rw [range_eq] at this
    exact_mod_cast this
  simp (disch := first | (simp; done) | omega) [e0, e1, e3, ifl, ifL, law_book_ok k hl (show ls.length ≤ 8 by omega) M1, m99, lb, lts_start, e4, rk]
  let I : Nat → Env → Mem → Prop := fun j ρ M => ∃ (s : Tree) (B : List Br) (b : Bag) (past ahead : List D) (x3 x10 : Option VD),
    ρ = [some (.d (.scr ns)), some (.adr 0), some (.d (specD t u ls)), x3, none, none, some (.d (bookD t u ls)), some (.d (.str start)), some (.adr 1), some (.d (stD owL s B)), x10, none, none, none] ∧
    M = [mo b, grM (grF t u ls start false 99 s B past ahead)] ∧ BagOk b ∧ GwOk t u ls start s B ∧ s.exp.length ≤ 3 + 3 * j ∧ B.length ≤ j ∧ past.length ≤ 2 * j
  refine Oc.seq' (I (0 + ((List.range' 0 (2 + q)).map fun (i : Nat) => D.int i).length)) (Oc.cnt I _ 0 ?_ (fun _ _ h => h) _ _ ?_) ?_
  · rintro i x hx ρ M ⟨s, B, b, past, ahead, x3, x10, rfl, rfl, hb, G, hx2, hB, hpa⟩
    have hi : i < 2 + q := by
      have := (List.getElem?_eq_some_iff.mp hx).1
      simpa using this
    obtain ⟨s', B', b', past', ahead', y10, e, hb', G', h1, h2, h3⟩ := turn71 hb G hu0 (by omega) (j := 0 + i) (past := past) (ahead := ahead) (by omega) hx2 hB hpa (x0 := some (.d (.scr ns))) (x3 := some (.d x)) (x4 := none) (x5 := none) (x6 := some (.d (bookD t u ls))) (x7 := some (.d (.str start))) (x10 := x10) (x11 := none) (x12 := none) (x13 := none)
    refine (show ∀ o : Out, kT _ _ = o → Oc o _ _ _ _ → Oc (kT _ _) _ _ _ _ from fun o h1 h2 => h1 ▸ h2) _ e ?_
    rw [Oc_nx]
    exact ⟨s', B', b', past', ahead', some (.d x), y10, rfl, rfl, hb', G', h1, h2, h3⟩
  · exact ⟨_, [], b4, [], [], none, none, by rw [stD, lts_start]; rfl, rfl, hb4, G0, by rw [fresh_exp]; omega, by simp, by simp⟩
  rintro ρ M ⟨s, B, b, past, ahead, x3, x10, rfl, rfl, hb, G, hx2, hB, hpa⟩
  simp only [List.length_map, List.length_range', Nat.zero_add] at hx2 hB hpa
  clear e0 e1 e3 e4 m99 rk
  have hB20 : B.length ≤ 20 := by omega
  have hc := colOk_of G.T G.K (by omega) (by omega)
  obtain ⟨y11, y12, y13, ed⟩ := due_loop (x0 := some (.d (.scr ns))) (x1 := some (.adr 0)) (x2 := some (.d (specD t u ls))) (x3 := x3) (x5 := none) (x6 := some (.d (bookD t u ls))) (x7 := some (.d (.str start))) (x8 := some (.adr 1)) (x9 := some (.d (stD owL s B))) (x10 := x10) (i := 2) B 0 [] none none none [mo b, grM (grF t u ls start false 99 s B past ahead), .lst []] hc rfl (by simp; omega) (by omega)
  have A1 : ∀ M : Mem, GrAt (mo b :: grM (grF t u ls start false 99 s B past ahead) :: M) 1 (grF t u ls start false 99 s B past ahead) := fun M => rfl
  have L3 : Lst [mo b, grM (grF t u ls start false 99 s B past ahead), .dead] := fun m hm => by
    simp only [List.mem_cons, List.not_mem_nil, or_false] at hm
    rcases hm with rfl | rfl | rfl <;> rfl
  have L4 : ∀ ds, Lst [mo b, grM (grF t u ls start false 99 s B past ahead), .dead, .lst ds] := fun ds m hm => by
    simp only [List.mem_cons, List.not_mem_nil, or_false] at hm
    rcases hm with rfl | rfl | rfl | rfl <;> rfl
  have co := columns_o_ok (A1 [.dead]) (by omega) hc L3
  have c1 := fun ds => columns_ok (A1 [.dead, .lst ds]) (by omega) hc (L4 ds)
  have mk := fun M => gr_make (t := t) (u := u) (ls := ls) hr (by omega) (M := M)
  have c2 := fun ds => columns_ok (i := 4) (M := [mo b, grM (grF t u ls start false 99 s B past ahead), .dead, .lst ds, grM (grF t u ls start false 60 (fresh none 0 60 start 62) [] [] [])]) (t := t) (u := u) (ls := ls) (start := start) (s := fresh none 0 60 start 62) (B := []) (busy := false) (lm := 60) (past := []) (ahead := []) rfl (by simp) (fun b hb => by simp at hb) (fun m hm => by
    simp only [List.mem_cons, List.not_mem_nil, or_false] at hm
    rcases hm with rfl | rfl | rfl | rfl | rfl <;> rfl)
  have cl := colF_len B 0
  have p0 : ∀ n, D.plA n (colF 0 B) = true := fun n => plA_all fun x hx => by
    obtain ⟨j, b', _, _, rfl⟩ := colF_mem B 0 x hx
    cases n <;> rfl
  have z1 : Sz (.lst (colF 0 B)) := .lst (by rw [cl]; omega) fun x hx => by
    obtain ⟨j, b', h1, h2, rfl⟩ := colF_mem B 0 x hx
    exact .str
  have sm1 := fun M => same_ok 7 (.lst (colF 0 B)) M (p0 6) (by omega) z1
  have sm2 := fun M => same_ok 7 (.lst [.lst (colF 0 B), .lst []]) M (by have := p0 5; simp [D.pl, D.plA, this]) (by omega) (.lst (by simp; omega) fun x hx => by
    simp only [List.mem_cons, List.not_mem_nil, or_false] at hx
    rcases hx with rfl | rfl
    · exact z1
    · exact .lst (by simp) fun x hx => by simp at hx)
  have st : stD owL s B = .tup [.lst ((lts none 0 s).map (letD owL)), .lst (B.map (birD owL))] := rfl
  have ce : colF 0 [] = [] := rfl
  rw [ce] at c2
  unfold kDue at ed
  rw [st] at ed ⊢
  generalize (lts none 0 s).map (letD owL) = LL at *
  generalize B.map (birD owL) = BB at *
  generalize grF t u ls start false 99 s B past ahead = F at *
  generalize grF t u ls start false 60 (fresh none 0 60 start 62) [] [] [] = F0 at *
  generalize colF 0 B = CC at *
  simp only [List.nil_append, List.set_cons_succ, List.set_cons_zero] at ed
  simp (disch := first | (simp; done) | omega) [ifl, ifL, ed, co, c1, c2, mk, sm1, sm2, e_makeO_eq]
end G
namespace G
open PySem PySem.Spec PyProof.Rows L2
structure Txt (K : PySem.W.Frag) (mg : Str → Option Value) (C : Cf) : Prop where
  b_int : mg "int" = none
  b_list : mg "list" = none
  b_len : mg "len" = none
  b_abs : mg "abs" = none
  b_range : mg "range" = none
  b_isinstance : mg "isinstance" = none
  b_str : mg "str" = none
  b_all : mg "all" = none
  b_sorted : mg "sorted" = none
  b_set : mg "set" = none
  b_tuple : mg "tuple" = none
  b_enumerate : mg "enumerate" = none
  b_bool : mg "bool" = none
  b_max : mg "max" = none
  b_zip : mg "zip" = none
  g_LOWER : ∃ t, mg "LOWER" = some (.str "abcdefghijklmnopqrstuvwxyz" t)
  g_UPPER : ∃ t, mg "UPPER" = some (.str "ABCDEFGHIJKLMNOPQRSTUVWXYZ" t)
  g_MOST_WORD : ∃ t, mg "MOST_WORD" = some (.int 3 t)
  g_MOST_ROW : ∃ t, mg "MOST_ROW" = some (.int 16 t)
  k_Book : mg "Book" = some (.ref (C.ca 0))
  n_Book : (C.nm 0).length = 3
  f_Book_kinds : Fld C "kinds" 0 0
  f_Book_comers : Fld C "comers" 0 1
  f_Book_own_lines : Fld C "own_lines" 0 2
  v_Book_MOST : ∃ mc u, ClX.CRead K (C.ca 0) mc ∧ ClX.CVal K (C.ca 0) mc "MOST" (.int 8) u
  k_Grown : mg "Grown" = some (.ref (C.ca 50))
  n_Grown : (C.nm 50).length = 8
  f_Grown_book : Fld C "book" 50 0
  f_Grown_start : Fld C "start" 50 1
  f_Grown_busy : Fld C "busy" 50 2
  f_Grown_own_limit : Fld C "own_limit" 50 3
  f_Grown_letters : Fld C "letters" 50 4
  f_Grown_own_births : Fld C "own_births" 50 5
  f_Grown_past : Fld C "past" 50 6
  f_Grown_ahead : Fld C "ahead" 50 7
  v_Grown_MOST : ∃ mc u, ClX.CRead K (C.ca 50) mc ∧ ClX.CVal K (C.ca 50) mc "MOST" (.int 99) u
  hn : ∀ c, (C.nm c).length < 1000
abbrev N__law_open : List Str := ["_law_script", "_law_mixed", "_law_cell"]
theorem sc__law_open : FnScope N__law_open ["_law_script"] (defScope s__law_open) := ⟨rfl, rfl, rfl, by decide +kernel, rfl, by decide +kernel, by decide +kernel⟩
abbrev N__law_draw : List Str := ["_law_bag", "_law_many", "_law_twice", "_law_cell", "_law_digit"]
theorem sc__law_draw : FnScope N__law_draw ["_law_bag", "_law_many"] (defScope s__law_draw) := ⟨rfl, rfl, rfl, by decide +kernel, rfl, by decide +kernel, by decide +kernel⟩
abbrev N__law_letters : List Str := ["_law_bag", "_law_letters_here", "_law_many", "_law_k", "_law_found", "_law_low", "_law_at"]
theorem sc__law_letters : FnScope N__law_letters ["_law_bag", "_law_letters_here", "_law_many"] (defScope s__law_letters) := ⟨rfl, rfl, rfl, by decide +kernel, rfl, by decide +kernel, by decide +kernel⟩
abbrev N__law_some_comers : List Str := ["_law_bag", "_law_most"]
theorem sc__law_some_comers : FnScope N__law_some_comers ["_law_bag", "_law_most"] (defScope s__law_some_comers) := ⟨rfl, rfl, rfl, by decide +kernel, rfl, by decide +kernel, by decide +kernel⟩
abbrev N__law_some_kinds : List Str := ["_law_bag", "_law_most"]
theorem sc__law_some_kinds : FnScope N__law_some_kinds ["_law_bag", "_law_most"] (defScope s__law_some_kinds) := ⟨rfl, rfl, rfl, by decide +kernel, rfl, by decide +kernel, by decide +kernel⟩
abbrev N__law_part : List Str := ["_law_bag", "_law_letters_here", "_law_chosen", "_law_letter"]
theorem sc__law_part : FnScope N__law_part ["_law_bag", "_law_letters_here"] (defScope s__law_part) := ⟨rfl, rfl, rfl, by decide +kernel, rfl, by decide +kernel, by decide +kernel⟩
abbrev N__law_of : List Str := ["_law_bag", "_law_things"]
theorem sc__law_of : FnScope N__law_of ["_law_bag", "_law_things"] (defScope s__law_of) := ⟨rfl, rfl, rfl, by decide +kernel, rfl, by decide +kernel, by decide +kernel⟩
abbrev N__law_string : List Str := ["_law_bag", "_law_kinds", "_law_most", "_law_k"]
theorem sc__law_string : FnScope N__law_string ["_law_bag", "_law_kinds", "_law_most"] (defScope s__law_string) := ⟨rfl, rfl, rfl, by decide +kernel, rfl, by decide +kernel, by decide +kernel⟩
abbrev N__law_line : List Str := ["_law_bag", "_law_kinds", "_law_comers", "_law_most", "_law_left", "_law_mid", "_law_right"]
theorem sc__law_line : FnScope N__law_line ["_law_bag", "_law_kinds", "_law_comers", "_law_most"] (defScope s__law_line) := ⟨rfl, rfl, rfl, by decide +kernel, rfl, by decide +kernel, by decide +kernel⟩
abbrev N__law_some_book : List Str := ["_law_bag", "_law_sizes", "_law_lines", "_law_kinds", "_law_comers", "_law_k"]
theorem sc__law_some_book : FnScope N__law_some_book ["_law_bag", "_law_sizes"] (defScope s__law_some_book) := ⟨rfl, rfl, rfl, by decide +kernel, rfl, by decide +kernel, by decide +kernel⟩
abbrev N_is_rising : List Str := ["value", "letters", "most", "letter"]
theorem sc_is_rising : FnScope N_is_rising ["value", "letters", "most"] (defScope s_is_rising) := ⟨rfl, rfl, rfl, by decide +kernel, rfl, by decide +kernel, by decide +kernel⟩
abbrev N_is_kinds : List Str := ["value"]
theorem sc_is_kinds : FnScope N_is_kinds ["value"] (defScope s_is_kinds) := ⟨rfl, rfl, rfl, by decide +kernel, rfl, by decide +kernel, by decide +kernel⟩
abbrev N_is_comers : List Str := ["value"]
theorem sc_is_comers : FnScope N_is_comers ["value"] (defScope s_is_comers) := ⟨rfl, rfl, rfl, by decide +kernel, rfl, by decide +kernel, by decide +kernel⟩
abbrev N_line_of : List Str := ["row", "words"]
theorem sc_line_of : FnScope N_line_of ["row"] (defScope s_line_of) := ⟨rfl, rfl, rfl, by decide +kernel, rfl, by decide +kernel, by decide +kernel⟩
abbrev N_is_part : List Str := ["value", "letters"]
theorem sc_is_part : FnScope N_is_part ["value", "letters"] (defScope s_is_part) := ⟨rfl, rfl, rfl, by decide +kernel, rfl, by decide +kernel, by decide +kernel⟩
abbrev N_is_string : List Str := ["value", "kinds", "letter"]
theorem sc_is_string : FnScope N_is_string ["value", "kinds"] (defScope s_is_string) := ⟨rfl, rfl, rfl, by decide +kernel, rfl, by decide +kernel, by decide +kernel⟩
abbrev N_is_word : List Str := ["value", "kinds"]
theorem sc_is_word : FnScope N_is_word ["value", "kinds"] (defScope s_is_word) := ⟨rfl, rfl, rfl, by decide +kernel, rfl, by decide +kernel, by decide +kernel⟩
abbrev N_is_line : List Str := ["value", "kinds", "comers"]
theorem sc_is_line : FnScope N_is_line ["value", "kinds", "comers"] (defScope s_is_line) := ⟨rfl, rfl, rfl, by decide +kernel, rfl, by decide +kernel, by decide +kernel⟩
abbrev N_Book___init__ : List Str := ["self", "kinds", "comers", "lines", "at", "line"]
theorem sc_Book___init__ : FnScope N_Book___init__ ["self", "kinds", "comers", "lines"] (defScope s_Book___init__) := ⟨rfl, rfl, rfl, by decide +kernel, rfl, by decide +kernel, by decide +kernel⟩
abbrev N_Book_read : List Str := ["text", "rows", "head", "lines", "at", "row", "line"]
theorem sc_Book_read : FnScope N_Book_read ["text"] (defScope s_Book_read) := ⟨rfl, rfl, rfl, by decide +kernel, rfl, by decide +kernel, by decide +kernel⟩
abbrev N__law_line_text : List Str := ["_law_row"]
theorem sc__law_line_text : FnScope N__law_line_text ["_law_row"] (defScope s__law_line_text) := ⟨rfl, rfl, rfl, by decide +kernel, rfl, by decide +kernel, by decide +kernel⟩
abbrev N__law_book_text : List Str := ["_law_spec", "_law_row"]
theorem sc__law_book_text : FnScope N__law_book_text ["_law_spec"] (defScope s__law_book_text) := ⟨rfl, rfl, rfl, by decide +kernel, rfl, by decide +kernel, by decide +kernel⟩
abbrev N__law_book : List Str := ["_law_spec"]
theorem sc__law_book : FnScope N__law_book ["_law_spec"] (defScope s__law_book) := ⟨rfl, rfl, rfl, by decide +kernel, rfl, by decide +kernel, by decide +kernel⟩
abbrev N__law_begin : List Str := ["_law_start", "_law_at", "_law_kind"]
theorem sc__law_begin : FnScope N__law_begin ["_law_start"] (defScope s__law_begin) := ⟨rfl, rfl, rfl, by decide +kernel, rfl, by decide +kernel, by decide +kernel⟩
abbrev N_is_row : List Str := ["value", "kinds"]
theorem sc_is_row : FnScope N_is_row ["value", "kinds"] (defScope s_is_row) := ⟨rfl, rfl, rfl, by decide +kernel, rfl, by decide +kernel, by decide +kernel⟩
abbrev N_is_number : List Str := ["value", "least", "most"]
theorem sc_is_number : FnScope N_is_number ["value", "least", "most"] (defScope s_is_number) := ⟨rfl, rfl, rfl, by decide +kernel, rfl, by decide +kernel, by decide +kernel⟩
abbrev N_letters_of : List Str := ["start", "at", "kind"]
theorem sc_letters_of : FnScope N_letters_of ["start"] (defScope s_letters_of) := ⟨rfl, rfl, rfl, by decide +kernel, rfl, by decide +kernel, by decide +kernel⟩
abbrev N_Grown___init__ : List Str := ["self", "book", "start", "limit"]
theorem sc_Grown___init__ : FnScope N_Grown___init__ ["self", "book", "start", "limit"] (defScope s_Grown___init__) := ⟨rfl, rfl, rfl, by decide +kernel, rfl, by decide +kernel, by decide +kernel⟩
abbrev N__law_some_step : List Str := ["_law_bag", "_law_spec", "_law_state"]
theorem sc__law_some_step : FnScope N__law_some_step ["_law_bag", "_law_spec", "_law_state"] (defScope s__law_some_step) := ⟨rfl, rfl, rfl, by decide +kernel, rfl, by decide +kernel, by decide +kernel⟩
abbrev N_is_one : List Str := ["value", "letters"]
theorem sc_is_one : FnScope N_is_one ["value", "letters"] (defScope s_is_one) := ⟨rfl, rfl, rfl, by decide +kernel, rfl, by decide +kernel, by decide +kernel⟩
abbrev N_is_gap : List Str := ["value", "kinds"]
theorem sc_is_gap : FnScope N_is_gap ["value", "kinds"] (defScope s_is_gap) := ⟨rfl, rfl, rfl, by decide +kernel, rfl, by decide +kernel, by decide +kernel⟩
abbrev N_takes : List Str := ["part", "letter"]
theorem sc_takes : FnScope N_takes ["part", "letter"] (defScope s_takes) := ⟨rfl, rfl, rfl, by decide +kernel, rfl, by decide +kernel, by decide +kernel⟩
abbrev N_Book_line_at : List Str := ["self", "gap", "comer", "at", "line"]
theorem sc_Book_line_at : FnScope N_Book_line_at ["self", "gap", "comer"] (defScope s_Book_line_at) := ⟨rfl, rfl, rfl, by decide +kernel, rfl, by decide +kernel, by decide +kernel⟩
abbrev N_Book_word : List Str := ["self", "gap", "comer", "at"]
theorem sc_Book_word : FnScope N_Book_word ["self", "gap", "comer"] (defScope s_Book_word) := ⟨rfl, rfl, rfl, by decide +kernel, rfl, by decide +kernel, by decide +kernel⟩
abbrev N_gap_at : List Str := ["row", "place", "border"]
theorem sc_gap_at : FnScope N_gap_at ["row", "place"] (defScope s_gap_at) := ⟨rfl, rfl, rfl, by decide +kernel, rfl, by decide +kernel, by decide +kernel⟩
abbrev N_spelled_letters : List Str := ["letters", "letter"]
theorem sc_spelled_letters : FnScope N_spelled_letters ["letters"] (defScope s_spelled_letters) := ⟨rfl, rfl, rfl, by decide +kernel, rfl, by decide +kernel, by decide +kernel⟩
abbrev N_age_of : List Str := ["letter"]
theorem sc_age_of : FnScope N_age_of ["letter"] (defScope s_age_of) := ⟨rfl, rfl, rfl, by decide +kernel, rfl, by decide +kernel, by decide +kernel⟩
abbrev N_birth_home : List Str := ["letters", "place", "left", "right"]
theorem sc_birth_home : FnScope N_birth_home ["letters", "place"] (defScope s_birth_home) := ⟨rfl, rfl, rfl, by decide +kernel, rfl, by decide +kernel, by decide +kernel⟩
abbrev N_with_birth : List Str := ["book", "letters", "births", "step", "word", "added", "place", "comer", "parent", "part", "at", "kind"]
theorem sc_with_birth : FnScope N_with_birth ["book", "letters", "births", "step"] (defScope s_with_birth) := ⟨rfl, rfl, rfl, by decide +kernel, rfl, by decide +kernel, by decide +kernel⟩
abbrev N_Grown_put_in : List Str := ["self", "step", "many", "letters", "births"]
theorem sc_Grown_put_in : FnScope N_Grown_put_in ["self", "step"] (defScope s_Grown_put_in) := ⟨rfl, rfl, rfl, by decide +kernel, rfl, by decide +kernel, by decide +kernel⟩
abbrev N_Grown_turn_to : List Str := ["self", "letters", "births"]
theorem sc_Grown_turn_to : FnScope N_Grown_turn_to ["self", "letters", "births"] (defScope s_Grown_turn_to) := ⟨rfl, rfl, rfl, by decide +kernel, rfl, by decide +kernel, by decide +kernel⟩
abbrev N_Grown_put_all : List Str := ["self", "steps", "at", "step", "letters", "births", "words", "done", "new_letters", "new_births"]
theorem sc_Grown_put_all : FnScope N_Grown_put_all ["self", "steps"] (defScope s_Grown_put_all) := ⟨rfl, rfl, rfl, by decide +kernel, rfl, by decide +kernel, by decide +kernel⟩
abbrev N_Grown_put : List Str := ["self", "place", "comer"]
theorem sc_Grown_put : FnScope N_Grown_put ["self", "place", "comer"] (defScope s_Grown_put) := ⟨rfl, rfl, rfl, by decide +kernel, rfl, by decide +kernel, by decide +kernel⟩
abbrev N__law_fits : List Str := ["_law_part_here", "_law_letter"]
theorem sc__law_fits : FnScope N__law_fits ["_law_part_here", "_law_letter"] (defScope s__law_fits) := ⟨rfl, rfl, rfl, by decide +kernel, rfl, by decide +kernel, by decide +kernel⟩
abbrev N__law_line_at : List Str := ["_law_spec", "_law_gap", "_law_comer", "_law_at", "_law_line_here", "_law_fits_here"]
theorem sc__law_line_at : FnScope N__law_line_at ["_law_spec", "_law_gap", "_law_comer"] (defScope s__law_line_at) := ⟨rfl, rfl, rfl, by decide +kernel, rfl, by decide +kernel, by decide +kernel⟩
abbrev N__law_word : List Str := ["_law_spec", "_law_gap", "_law_comer", "_law_at"]
theorem sc__law_word : FnScope N__law_word ["_law_spec", "_law_gap", "_law_comer"] (defScope s__law_word) := ⟨rfl, rfl, rfl, by decide +kernel, rfl, by decide +kernel, by decide +kernel⟩
abbrev N__law_parts : List Str := ["_law_gap", "_law_word_here", "_law_whole", "_law_at"]
theorem sc__law_parts : FnScope N__law_parts ["_law_gap", "_law_word_here"] (defScope s__law_parts) := ⟨rfl, rfl, rfl, by decide +kernel, rfl, by decide +kernel, by decide +kernel⟩
abbrev N__law_row_gaps : List Str := ["_law_row"]
theorem sc__law_row_gaps : FnScope N__law_row_gaps ["_law_row"] (defScope s__law_row_gaps) := ⟨rfl, rfl, rfl, by decide +kernel, rfl, by decide +kernel, by decide +kernel⟩
abbrev N__law_home : List Str := ["_law_letters_here", "_law_place", "_law_left", "_law_right"]
theorem sc__law_home : FnScope N__law_home ["_law_letters_here", "_law_place"] (defScope s__law_home) := ⟨rfl, rfl, rfl, by decide +kernel, rfl, by decide +kernel, by decide +kernel⟩
abbrev N__law_put : List Str := ["_law_spec", "_law_state", "_law_step", "_law_row", "_law_word_here", "_law_home_here", "_law_more", "_law_letters_here", "_law_births", "_law_place", "_law_comer", "_law_letter", "_law_at", "_law_kind"]
theorem sc__law_put : FnScope N__law_put ["_law_spec", "_law_state", "_law_step"] (defScope s__law_put) := ⟨rfl, rfl, rfl, by decide +kernel, rfl, by decide +kernel, by decide +kernel⟩
abbrev N__law_take_due : List Str := ["_law_state", "_law_at", "_law_gone", "_law_birth"]
theorem sc__law_take_due : FnScope N__law_take_due ["_law_state", "_law_at"] (defScope s__law_take_due) := ⟨rfl, rfl, rfl, by decide +kernel, rfl, by decide +kernel, by decide +kernel⟩
abbrev N_lowered : List Str := ["index", "gone"]
theorem sc_lowered : FnScope N_lowered ["index", "gone"] (defScope s_lowered) := ⟨rfl, rfl, rfl, by decide +kernel, rfl, by decide +kernel, by decide +kernel⟩
abbrev N_without_birth : List Str := ["letters", "births", "gone", "kept", "rows", "kind", "owner", "at", "comer", "word", "parent", "part", "row"]
theorem sc_without_birth : FnScope N_without_birth ["letters", "births", "gone"] (defScope s_without_birth) := ⟨rfl, rfl, rfl, by decide +kernel, rfl, by decide +kernel, by decide +kernel⟩
abbrev N_Grown_take : List Str := ["self", "at", "gone", "word", "letters", "births", "birth"]
theorem sc_Grown_take : FnScope N_Grown_take ["self", "at"] (defScope s_Grown_take) := ⟨rfl, rfl, rfl, by decide +kernel, rfl, by decide +kernel, by decide +kernel⟩
abbrev N__law_less : List Str := ["_law_number", "_law_gone"]
theorem sc__law_less : FnScope N__law_less ["_law_number", "_law_gone"] (defScope s__law_less) := ⟨rfl, rfl, rfl, by decide +kernel, rfl, by decide +kernel, by decide +kernel⟩
abbrev N__law_taken : List Str := ["_law_state", "_law_gone", "_law_letters_here", "_law_births", "_law_letter", "_law_birth"]
theorem sc__law_taken : FnScope N__law_taken ["_law_state", "_law_gone"] (defScope s__law_taken) := ⟨rfl, rfl, rfl, by decide +kernel, rfl, by decide +kernel, by decide +kernel⟩
abbrev N__law_try_take : List Str := ["_law_bag", "_law_grown", "_law_state", "_law_at"]
theorem sc__law_try_take : FnScope N__law_try_take ["_law_bag", "_law_grown", "_law_state"] (defScope s__law_try_take) := ⟨rfl, rfl, rfl, by decide +kernel, rfl, by decide +kernel, by decide +kernel⟩
abbrev N_Grown_births : List Str := ["self"]
theorem sc_Grown_births : FnScope N_Grown_births ["self"] (defScope s_Grown_births) := ⟨rfl, rfl, rfl, by decide +kernel, rfl, by decide +kernel, by decide +kernel⟩
abbrev N_columns_o : List Str := ["grown", "found", "at", "shown", "comer", "word", "parent", "part"]
theorem sc_columns_o : FnScope N_columns_o ["grown"] (defScope s_columns_o) := ⟨rfl, rfl, rfl, by decide +kernel, rfl, by decide +kernel, by decide +kernel⟩
abbrev N__law_same : List Str := ["_law_found", "_law_due", "_law_a", "_law_b"]
theorem sc__law_same : FnScope N__law_same ["_law_found", "_law_due"] (defScope s__law_same) := ⟨rfl, rfl, rfl, by decide +kernel, rfl, by decide +kernel, by decide +kernel⟩
abbrev N_columns : List Str := ["grown", "found", "at", "shown", "comer", "word", "parent", "part"]
theorem sc_columns : FnScope N_columns ["grown"] (defScope s_columns) := ⟨rfl, rfl, rfl, by decide +kernel, rfl, by decide +kernel, by decide +kernel⟩
abbrev N_law : List Str := ["_law_script", "_law_bag", "_law_spec", "_law_turn", "_law_due", "_law_told", "_law_book_here", "_law_start", "_law_grown", "_law_state", "_law_step", "_law_at", "_law_birth", "_law_shown_z"]
theorem sc_law : FnScope N_law ["_law_script"] (defScope s_law) := ⟨rfl, rfl, rfl, by decide +kernel, rfl, by decide +kernel, by decide +kernel⟩
section
variable {P : Program} {w : World} {K : PySem.W.Frag} {mg : Str → Option Value} {base : Heap} {C : Cf} {f gB : Addr} {fd : FuncData}
theorem ok__law_open (hK : C.K = K) (T : Txt K mg C)  (F : Fun K "_law_open" "_law_open" s__law_open f fd) : FnOk P w K mg base CX0 1 f fd ["_law_script"] (spD C 1 m__law_open) := fn_mk (k := 0) F sc__law_open hK rfl fun cdv A outer s H E c =>
    (xss_cons (xs_set (i := 1) c x_int)
    (xss_cons (xs_for c (xi_any c.K (x_sl c.K (x_var 0) xo_none (xo_some x_int))) (xg_name (i := 2) c.nd) (xss_one (xs_set (i := 1) c (x_mod (xb_int c T.b_int (xa_cons (x_add c.K (x_add c.K (x_mul (x_var 1) x_int) (x_mul (x_mod (xb_int c T.b_int (xa_cons (x_var 2) xa_nil)) x_int) x_int)) x_int) xa_nil)) x_int))))
    (xss_one (xs_ret (x_lstO (xa_cons (xb_list c T.b_list (xa_cons (x_sl c.K (x_var 0) xo_none (xo_some x_int)) xa_nil)) (xa_cons x_int (xa_cons x_int (xa_cons (x_var 1) (xa_cons x_int xa_nil))))))))))
theorem ok__law_draw (hK : C.K = K) (T : Txt K mg C)  (F : Fun K "_law_draw" "_law_draw" s__law_draw f fd) : FnOk P w K mg base CX0 1 f fd ["_law_bag", "_law_many"] (spD C 2 m__law_draw) := fn_mk (k := 0) F sc__law_draw hK rfl fun cdv A outer s H E c =>
    (xss_cons (xs_seti (x_add c.K (x_ix c.K (x_var 0) x_int) x_int) (x_var 0) x_int)
    (xss_cons (xs_if (t_w (w_and (t_eq c (x_ix c.K (x_var 0) x_int) x_int) (w_and1 (t_lt (x_ix c.K (x_var 0) x_int) (xb_len c T.b_len (xa_cons (x_ix c.K (x_var 0) x_int) xa_nil)))))) (xss_cons (xs_set (i := 3) c (x_ix c.K (x_ix c.K (x_var 0) x_int) (x_ix c.K (x_var 0) x_int)))
    (xss_cons (xs_seti (x_add c.K (x_ix c.K (x_var 0) x_int) x_int) (x_var 0) x_int)
    (xss_one (xs_if (t_ge (xb_abs c T.b_abs (xa_cons (x_var 3) xa_nil)) (x_pow x_int x_int)) (xss_one (xs_seti (xb_abs c T.b_abs (xa_cons (x_var 3) xa_nil)) (x_var 0) x_int)) (xss_one (xs_seti (x_mod (xb_int c T.b_int (xa_cons (x_add c.K (x_add c.K (x_mul (x_ix c.K (x_var 0) x_int) x_int) (x_mul (x_mod (xb_int c T.b_int (xa_cons (x_var 3) xa_nil)) x_int) x_int)) x_int) xa_nil)) x_int) (x_var 0) x_int)))))) xss_nil)
    (xss_cons (xs_if (t_gt (x_ix c.K (x_var 0) x_int) x_int) (xss_cons (xs_set (i := 4) c (x_mod (xb_int c T.b_int (xa_cons (x_ix c.K (x_var 0) x_int) xa_nil)) (x_var 1)))
    (xss_cons (xs_seti (x_fdiv (x_ix c.K (x_var 0) x_int) (x_var 1)) (x_var 0) x_int)
    (xss_one (xs_ret (x_var 4))))) xss_nil)
    (xss_cons (xs_set (i := 2) c (x_mod (xb_int c T.b_int (xa_cons (x_add c.K (x_mul (x_ix c.K (x_var 0) x_int) (x_ix c.K (x_var 0) x_int)) (x_mul (x_ix c.K (x_var 0) x_int) x_int)) xa_nil)) x_int))
    (xss_cons (xs_seti (x_mod (xb_int c T.b_int (xa_cons (x_add c.K (x_add c.K (x_mul (x_var 2) x_int) (x_mul (x_ix c.K (x_var 0) x_int) x_int)) x_int) xa_nil)) x_int) (x_var 0) x_int)
    (xss_one (xs_ret (x_mod (xb_int c T.b_int (xa_cons (x_fdiv (x_ix c.K (x_var 0) x_int) x_int) xa_nil)) (x_var 1)))))))))
theorem ok__law_letters (hK : C.K = K) (T : Txt K mg C) (G__law_draw : Callee P w K mg base CX0 C "_law_draw" 1 2 m__law_draw) (F : Fun K "_law_letters" "_law_letters" s__law_letters f fd) : FnOk P w K mg base CX0 2 f fd ["_law_bag", "_law_letters_here", "_law_many"] (spD C 3 m__law_letters) := fn_mk (k := 1) F sc__law_letters hK rfl fun cdv A outer s H E c =>
    (xss_cons (xs_asg (x_tup (xa_cons (x_str []) (xa_cons x_int xa_nil))) (xg_tup c (xgs_cons (xg_name (i := 4) c.nd) (xgs_cons (xg_name (i := 5) c.nd) xgs_nil))))
    (xss_cons (xs_for c (xi_rng1 T.b_range (xa_cons (x_var 2) xa_nil)) (xg_name (i := 3) c.nd) (xss_cons (xs_set (i := 6) c (x_add c.K (x_var 5) (x_call c G__law_draw (xa_cons (x_var 0) (xa_cons (x_sub (x_sub (xb_len c T.b_len (xa_cons (x_var 1) xa_nil)) (x_var 5)) (x_sub (x_sub (x_var 2) x_int) (x_var 3))) xa_nil)))))
    (xss_one (xs_par (i := 4) (j := 5) c (xa_cons (x_add c.K (x_var 4) (x_ix c.K (x_var 1) (x_var 6))) (xa_cons (x_add c.K (x_var 6) x_int) xa_nil))))))
    (xss_one (xs_ret (x_var 4)))))
theorem ok__law_some_comers (hK : C.K = K) (T : Txt K mg C) (G__law_letters : Callee P w K mg base CX0 C "_law_letters" 2 3 m__law_letters) (G__law_draw : Callee P w K mg base CX0 C "_law_draw" 1 2 m__law_draw) (F : Fun K "_law_some_comers" "_law_some_comers" s__law_some_comers f fd) : FnOk P w K mg base CX0 3 f fd ["_law_bag", "_law_most"] (spD C 2 m__law_some_comers) := fn_mk (k := 2) F sc__law_some_comers hK rfl fun cdv A outer s H E c =>
    (xss_one (xs_ret (x_call c G__law_letters (xa_cons (x_var 0) (xa_cons (x_str [65, 66, 67, 68, 69, 70, 71, 72, 73, 74, 75, 76, 77, 78, 79, 80, 81, 82, 83, 84, 85, 86, 87, 88, 89, 90]) (xa_cons (x_add c.K x_int (x_call c G__law_draw (xa_cons (x_var 0) (xa_cons (x_var 1) xa_nil)))) xa_nil))))))
theorem ok__law_some_kinds (hK : C.K = K) (T : Txt K mg C) (G__law_letters : Callee P w K mg base CX0 C "_law_letters" 2 3 m__law_letters) (G__law_draw : Callee P w K mg base CX0 C "_law_draw" 1 2 m__law_draw) (F : Fun K "_law_some_kinds" "_law_some_kinds" s__law_some_kinds f fd) : FnOk P w K mg base CX0 3 f fd ["_law_bag", "_law_most"] (spD C 2 m__law_some_kinds) := fn_mk (k := 2) F sc__law_some_kinds hK rfl fun cdv A outer s H E c =>
    (xss_one (xs_ret (x_call c G__law_letters (xa_cons (x_var 0) (xa_cons (x_str [97, 98, 99, 100, 101, 102, 103, 104, 105, 106, 107, 108, 109, 110, 111, 112, 113, 114, 115, 116, 117, 118, 119, 120, 121, 122]) (xa_cons (x_add c.K x_int (x_call c G__law_draw (xa_cons (x_var 0) (xa_cons (x_var 1) xa_nil)))) xa_nil))))))
theorem ok__law_part (hK : C.K = K) (T : Txt K mg C) (G__law_draw : Callee P w K mg base CX0 C "_law_draw" 1 2 m__law_draw) (F : Fun K "_law_part" "_law_part" s__law_part f fd) : FnOk P w K mg base CX0 2 f fd ["_law_bag", "_law_letters_here"] (spD C 2 m__law_part) := fn_mk (k := 1) F sc__law_part hK rfl fun cdv A outer s H E c =>
    (xss_cons (xs_set (i := 2) c (x_join c.K (x_str []) (x_comp c (xi_any c.K (x_var 1)) (blkOk_by (own := [("_law_letter", 3)]) (N := N__law_part) (sc := defScope s__law_part) (by decide +kernel)) (fun _ _ _ _ _ c => (xg_name (i := 3) c.nd)) (fun _ _ _ _ _ c => (xts_one (t_eq c (x_call c G__law_draw (xa_cons (x_var 0) (xa_cons x_int xa_nil))) x_int))) (fun _ _ _ _ _ c => (x_var 3)))))
    (xss_one (xs_ret (x_if (t_w (w_and (t_ne c (x_var 2) (x_str [])) (w_and1 (t_gt (x_call c G__law_draw (xa_cons (x_var 0) (xa_cons x_int xa_nil))) x_int)))) (x_var 2) (x_str [46])))))
theorem ok__law_of (hK : C.K = K) (T : Txt K mg C) (G__law_draw : Callee P w K mg base CX0 C "_law_draw" 1 2 m__law_draw) (F : Fun K "_law_of" "_law_of" s__law_of f fd) : FnOk P w K mg base CX0 2 f fd ["_law_bag", "_law_things"] (spD C 2 m__law_of) := fn_mk (k := 1) F sc__law_of hK rfl fun cdv A outer s H E c =>
    (xss_one (xs_ret (x_ix c.K (x_var 1) (x_call c G__law_draw (xa_cons (x_var 0) (xa_cons (xb_len c T.b_len (xa_cons (x_var 1) xa_nil)) xa_nil))))))
theorem ok__law_string (hK : C.K = K) (T : Txt K mg C) (G__law_draw : Callee P w K mg base CX0 C "_law_draw" 1 2 m__law_draw) (G__law_of : Callee P w K mg base CX0 C "_law_of" 2 2 m__law_of) (F : Fun K "_law_string" "_law_string" s__law_string f fd) : FnOk P w K mg base CX0 3 f fd ["_law_bag", "_law_kinds", "_law_most"] (spD C 3 m__law_string) := fn_mk (k := 2) F sc__law_string hK rfl fun cdv A outer s H E c =>
    (xss_one (xs_ret (x_join c.K (x_str []) (x_comp c (xi_rng1 T.b_range (xa_cons (x_call c G__law_draw (xa_cons (x_var 0) (xa_cons (x_add c.K (x_var 2) x_int) xa_nil))) xa_nil)) (blkOk_by (own := [("_law_k", 3)]) (N := N__law_string) (sc := defScope s__law_string) (by decide +kernel)) (fun _ _ _ _ _ c => (xg_name (i := 3) c.nd)) (fun _ _ _ _ _ c => xts_nil) (fun _ _ _ _ _ c => (x_call c G__law_of (xa_cons (x_var 0) (xa_cons (x_var 1) xa_nil))))))))
theorem ok__law_line (hK : C.K = K) (T : Txt K mg C) (G__law_part : Callee P w K mg base CX0 C "_law_part" 2 2 m__law_part) (G__law_string : Callee P w K mg base CX0 C "_law_string" 3 3 m__law_string) (F : Fun K "_law_line" "_law_line" s__law_line f fd) : FnOk P w K mg base CX0 4 f fd ["_law_bag", "_law_kinds", "_law_comers", "_law_most"] (spD C 4 m__law_line) := fn_mk (k := 3) F sc__law_line hK rfl fun cdv A outer s H E c =>
    (xss_cons (xs_par3 (i := 4) (j := 5) (l := 6) c (xa_cons (x_call c G__law_part (xa_cons (x_var 0) (xa_cons (x_add c.K (x_str [60]) (x_var 1)) xa_nil))) (xa_cons (x_call c G__law_part (xa_cons (x_var 0) (xa_cons (x_var 2) xa_nil))) (xa_cons (x_call c G__law_part (xa_cons (x_var 0) (xa_cons (x_add c.K (x_str [62]) (x_var 1)) xa_nil))) xa_nil))))
    (xss_one (xs_ret (x_tup (xa_cons (x_var 4) (xa_cons (x_var 5) (xa_cons (x_var 6) (xa_cons (x_call c G__law_string (xa_cons (x_var 0) (xa_cons (x_var 1) (xa_cons (x_var 3) xa_nil)))) xa_nil))))))))
theorem ok__law_some_book (hK : C.K = K) (T : Txt K mg C) (G__law_some_comers : Callee P w K mg base CX0 C "_law_some_comers" 3 2 m__law_some_comers) (G__law_some_kinds : Callee P w K mg base CX0 C "_law_some_kinds" 3 2 m__law_some_kinds) (G__law_draw : Callee P w K mg base CX0 C "_law_draw" 1 2 m__law_draw) (G__law_line : Callee P w K mg base CX0 C "_law_line" 4 4 m__law_line) (G__law_of : Callee P w K mg base CX0 C "_law_of" 2 2 m__law_of) (F : Fun K "_law_some_book" "_law_some_book" s__law_some_book f fd) : FnOk P w K mg base CX0 5 f fd ["_law_bag", "_law_sizes"] (spD C 2 m__law_some_book) := fn_mk (k := 4) F sc__law_some_book hK rfl fun cdv A outer s H E c =>
    (xss_cons (xs_asg (x_tup (xa_cons (x_call c G__law_some_kinds (xa_cons (x_var 0) (xa_cons (x_ix c.K (x_var 1) x_int) xa_nil))) (xa_cons (x_call c G__law_some_comers (xa_cons (x_var 0) (xa_cons (x_ix c.K (x_var 1) x_int) xa_nil))) xa_nil))) (xg_tup c (xgs_cons (xg_name (i := 3) c.nd) (xgs_cons (xg_name (i := 4) c.nd) xgs_nil))))
    (xss_cons (xs_setLcN (i := 2) c (xi_rng1 T.b_range (xa_cons (x_call c G__law_draw (xa_cons (x_var 0) (xa_cons (x_add c.K (x_ix c.K (x_var 1) x_int) x_int) xa_nil))) xa_nil)) (blkOk_by (own := [("_law_k", 5)]) (N := N__law_some_book) (sc := defScope s__law_some_book) (by decide +kernel)) (fun _ _ _ _ _ c => (xg_name (i := 5) c.nd)) (fun _ _ _ _ _ c => xts_nil) (fun _ _ _ _ _ c => (x_call c G__law_line (xa_cons (x_var 0) (xa_cons (x_var 3) (xa_cons (x_var 4) (xa_cons (x_ix c.K (x_var 1) x_int) xa_nil)))))))
    (xss_cons (xs_if (t_w (w_and (t_gt (x_call c G__law_draw (xa_cons (x_var 0) (xa_cons x_int xa_nil))) x_int) (w_and1 (t_lt (xb_len c T.b_len (xa_cons (x_var 2) xa_nil)) (x_ix c.K (x_var 1) x_int))))) (xss_one (xs_expr (x_app c.K (x_var 2) (x_tup (xa_cons (x_str [46]) (xa_cons (x_str [46]) (xa_cons (x_str [46]) (xa_cons (x_call c G__law_of (xa_cons (x_var 0) (xa_cons (x_var 3) xa_nil))) xa_nil)))))))) xss_nil)
    (xss_one (xs_frz 2 (xs_ret (x_lst (xa_cons (x_var 3) (xa_cons (x_var 4) (xa_cons (x_var 2) xa_nil))))))))))
theorem ok_is_rising (hK : C.K = K) (T : Txt K mg C)  (F : Fun K "is_rising" "is_rising" s_is_rising f fd) : FnOk P w K mg base CX0 1 f fd ["value", "letters", "most"] (spD C 3 m_is_rising) := fn_mk (k := 0) F sc_is_rising hK rfl fun cdv A outer s H E c =>
    (xss_cons (xs_if (t_w (w_or (t_not (t_truth c.K (x_isi (b := .str) c.K (x_var 0) T.b_isinstance T.b_str (by decide +kernel)))) (w_or1 (t_not (t_chain o_le o_le p_cmp p_cmp x_int (xb_len c T.b_len (xa_cons (x_var 0) xa_nil)) (x_var 2)))))) (xss_one (xs_ret x_bl)) xss_nil)
    (xss_one (xs_ret (x_and (xb_all c T.b_all (xa_cons (x_comp c (xi_any c.K (x_var 0)) (blkOk_by (own := [("letter", 3)]) (N := N_is_rising) (sc := defScope s_is_rising) (by decide +kernel)) (fun _ _ _ _ _ c => (xg_name (i := 3) c.nd)) (fun _ _ _ _ _ c => xts_nil) (fun _ _ _ _ _ c => (x_in c (x_var 3) (x_var 1)))) xa_nil)) (x_one (x_eq c (xb_list c T.b_list (xa_cons (x_var 0) xa_nil)) (xb_srt c T.b_sorted T.b_set (x_var 0))))))))
theorem ok_is_kinds (hK : C.K = K) (T : Txt K mg C) (G_is_rising : Callee P w K mg base CX0 C "is_rising" 1 3 m_is_rising) (F : Fun K "is_kinds" "is_kinds" s_is_kinds f fd) : FnOk P w K mg base CX0 2 f fd ["value"] (spD C 1 m_is_kinds) := fn_mk (k := 1) F sc_is_kinds hK rfl fun cdv A outer s H E c =>
    (xss_one (xs_ret (x_call c G_is_rising (xa_cons (x_var 0) (xa_cons (x_globS [97, 98, 99, 100, 101, 102, 103, 104, 105, 106, 107, 108, 109, 110, 111, 112, 113, 114, 115, 116, 117, 118, 119, 120, 121, 122] rfl T.g_LOWER) (xa_cons x_int xa_nil))))))
theorem ok_is_comers (hK : C.K = K) (T : Txt K mg C) (G_is_rising : Callee P w K mg base CX0 C "is_rising" 1 3 m_is_rising) (F : Fun K "is_comers" "is_comers" s_is_comers f fd) : FnOk P w K mg base CX0 2 f fd ["value"] (spD C 1 m_is_comers) := fn_mk (k := 1) F sc_is_comers hK rfl fun cdv A outer s H E c =>
    (xss_one (xs_ret (x_call c G_is_rising (xa_cons (x_var 0) (xa_cons (x_globS [65, 66, 67, 68, 69, 70, 71, 72, 73, 74, 75, 76, 77, 78, 79, 80, 81, 82, 83, 84, 85, 86, 87, 88, 89, 90] rfl T.g_UPPER) (xa_cons x_int xa_nil))))))
theorem ok_line_of (hK : C.K = K) (T : Txt K mg C)  (F : Fun K "line_of" "line_of" s_line_of f fd) : FnOk P w K mg base CX0 1 f fd ["row"] (spD C 1 m_line_of) := fn_mk (k := 0) F sc_line_of hK rfl fun cdv A outer s H E c =>
    (xss_cons (xs_set (i := 1) c (x_split (x_var 0) (x_str [32])))
    (xss_cons (xs_if (t_w (w_or (t_ne c (xb_len c T.b_len (xa_cons (x_var 1) xa_nil)) x_int) (w_or1 (t_in c (x_str []) (x_var 1))))) (xss_one (xs_ret x_non)) xss_nil)
    (xss_one (xs_ret (x_tup (xa_star c.K (x_sl c.K (x_var 1) xo_none (xo_some x_int)) (xa_cons (x_if (t_eq c (x_ix c.K (x_var 1) x_int) (x_str [45])) (x_str []) (x_ix c.K (x_var 1) x_int)) xa_nil)))))))
theorem ok_is_part (hK : C.K = K) (T : Txt K mg C) (G_is_rising : Callee P w K mg base CX0 C "is_rising" 1 3 m_is_rising) (F : Fun K "is_part" "is_part" s_is_part f fd) : FnOk P w K mg base CX0 2 f fd ["value", "letters"] (spD C 2 m_is_part) := fn_mk (k := 1) F sc_is_part hK rfl fun cdv A outer s H E c =>
    (xss_one (xs_ret (x_and (x_isi (b := .str) c.K (x_var 0) T.b_isinstance T.b_str (by decide +kernel)) (x_one (x_or (x_eq c (x_var 0) (x_str [46])) (x_one (x_call c G_is_rising (xa_cons (x_var 0) (xa_cons (x_var 1) (xa_cons (xb_len c T.b_len (xa_cons (x_var 1) xa_nil)) xa_nil))))))))))
theorem ok_is_string (hK : C.K = K) (T : Txt K mg C)  (F : Fun K "is_string" "is_string" s_is_string f fd) : FnOk P w K mg base CX0 1 f fd ["value", "kinds"] (spD C 2 m_is_string) := fn_mk (k := 0) F sc_is_string hK rfl fun cdv A outer s H E c =>
    (xss_one (xs_ret (x_and (x_isi (b := .str) c.K (x_var 0) T.b_isinstance T.b_str (by decide +kernel)) (x_one (xb_all c T.b_all (xa_cons (x_comp c (xi_any c.K (x_var 0)) (blkOk_by (own := [("letter", 2)]) (N := N_is_string) (sc := defScope s_is_string) (by decide +kernel)) (fun _ _ _ _ _ c => (xg_name (i := 2) c.nd)) (fun _ _ _ _ _ c => xts_nil) (fun _ _ _ _ _ c => (x_in c (x_var 2) (x_var 1)))) xa_nil))))))
theorem ok_is_word (hK : C.K = K) (T : Txt K mg C) (G_is_string : Callee P w K mg base CX0 C "is_string" 1 2 m_is_string) (F : Fun K "is_word" "is_word" s_is_word f fd) : FnOk P w K mg base CX0 2 f fd ["value", "kinds"] (spD C 2 m_is_word) := fn_mk (k := 1) F sc_is_word hK rfl fun cdv A outer s H E c =>
    (xss_one (xs_ret (x_and (x_call c G_is_string (xa_cons (x_var 0) (xa_cons (x_var 1) xa_nil))) (x_one (x_le (xb_len c T.b_len (xa_cons (x_var 0) xa_nil)) (x_globI (i := 3) rfl T.g_MOST_WORD))))))
theorem ok_is_line (hK : C.K = K) (T : Txt K mg C) (G_is_part : Callee P w K mg base CX0 C "is_part" 2 2 m_is_part) (G_is_word : Callee P w K mg base CX0 C "is_word" 2 2 m_is_word) (F : Fun K "is_line" "is_line" s_is_line f fd) : FnOk P w K mg base CX0 3 f fd ["value", "kinds", "comers"] (spD C 3 m_is_line) := fn_mk (k := 2) F sc_is_line hK rfl fun cdv A outer s H E c =>
    (xss_cons (xs_if (t_w (w_or (t_not (t_truth c.K (x_isi (b := .tuple) c.K (x_var 0) T.b_isinstance T.b_tuple (by decide +kernel)))) (w_or (t_ne c (xb_len c T.b_len (xa_cons (x_var 0) xa_nil)) x_int) (w_or1 (t_not (t_truth c.K (x_call c G_is_part (xa_cons (x_ix c.K (x_var 0) x_int) (xa_cons (x_add c.K (x_str [60]) (x_var 1)) xa_nil))))))))) (xss_one (xs_ret x_bl)) xss_nil)
    (xss_one (xs_ret (x_and (x_call c G_is_part (xa_cons (x_ix c.K (x_var 0) x_int) (xa_cons (x_var 2) xa_nil))) (x_and (x_call c G_is_part (xa_cons (x_ix c.K (x_var 0) x_int) (xa_cons (x_add c.K (x_str [62]) (x_var 1)) xa_nil))) (x_one (x_call c G_is_word (xa_cons (x_ix c.K (x_var 0) x_int) (xa_cons (x_var 1) xa_nil)))))))))
theorem bd_Book___init__ {kV dc pm cd ct : Value} {an : Option Addr} : ∀ us rest : List Value, us.length = (["self", "kinds", "comers"] : List Str).length → bindArgs (PySem.W.fnOf "__init__" "Book.__init__" (defArgs s_Book___init__) (defBody s_Book___init__) (defScope s_Book___init__) .none kV dc pm an cd ct) ⟨us ++ rest, []⟩ = (newTuple rest >>= fun t => pure ((["self", "kinds", "comers"] : List Str).zip us ++ [(("lines" : Str), t)])) := bind_star3 (B := fun us => bindArgs (PySem.W.fnOf "__init__" "Book.__init__" (defArgs s_Book___init__) (defBody s_Book___init__) (defScope s_Book___init__) .none kV dc pm an cd ct) ⟨us, []⟩) (p1 := "self") (p2 := "kinds") (p3 := "comers") (pv := "lines") (fun a b c => rfl) fun a b c r rs => rfl
theorem ok_Book___init__ {oc kV dc pm cd ct : Value} {od an : Option Addr} {sl : Array (Option Value)} (hK : C.K = K) (T : Txt K mg C) (G_is_kinds : Callee P w K mg base CX0 C "is_kinds" 2 1 m_is_kinds) (G_is_comers : Callee P w K mg base CX0 C "is_comers" 2 1 m_is_comers) (G_is_line : Callee P w K mg base CX0 C "is_line" 3 3 m_is_line) (lk : K.lookup f = some ⟨oc, od, .func (PySem.W.fnOf "__init__" "Book.__init__" (defArgs s_Book___init__) (defBody s_Book___init__) (defScope s_Book___init__) .none kV dc pm an cd ct), sl⟩) (hcd : PySem.W.codeIn K cd "Book.__init__" = true) : FnR P w K mg base CX0 4 f (spP C p_Book___init__) := fn_mkS (N := N_Book___init__) (body := b_Book___init__) (ps := ["self", "kinds", "comers"]) (pv := "lines") (n := 3) (k := 3) lk hcd sc_Book___init__ hK rfl bd_Book___init__ fun cdv A outer s H E c =>
    (xss_cons (xs_if (t_not (t_truth c.K (x_call c G_is_kinds (xa_cons (x_var 1) xa_nil)))) (xss_one xs_never) xss_nil)
    (xss_cons (xs_if (t_not (t_truth c.K (x_call c G_is_comers (xa_cons (x_var 2) xa_nil)))) (xss_one xs_never) xss_nil)
    (xss_cons (xs_for c (xi_enumA c.K T.b_enumerate (xa_cons (x_var 3) xa_nil)) (xg_tup c (xgs_cons (xg_name (i := 4) c.nd) (xgs_cons (xg_name (i := 5) c.nd) xgs_nil))) (xss_one (xs_if (t_w (w_or (t_ge (x_var 4) (x_cvalE (i := 8) T.k_Book T.v_Book_MOST)) (w_or1 (t_not (t_truth c.K (x_call c G_is_line (xa_cons (x_var 5) (xa_cons (x_var 1) (xa_cons (x_var 2) xa_nil))))))))) (xss_one xs_never) xss_nil)))
    (xss_cons (xs_fld c.K (fld_tb T.f_Book_kinds) T.hn (x_var 1) (x_var 0))
    (xss_cons (xs_fld c.K (fld_tb T.f_Book_comers) T.hn (x_var 2) (x_var 0))
    (xss_one (xs_fld c.K (fld_tb T.f_Book_own_lines) T.hn (xb_list c T.b_list (xa_cons (x_var 3) xa_nil)) (x_var 0))))))))
theorem ok_Book_read (hK : C.K = K) (T : Txt K mg C) (G_is_kinds : Callee P w K mg base CX0 C "is_kinds" 2 1 m_is_kinds) (G_is_comers : Callee P w K mg base CX0 C "is_comers" 2 1 m_is_comers) (G_line_of : Callee P w K mg base CX0 C "line_of" 1 1 m_line_of) (G_is_line : Callee P w K mg base CX0 C "is_line" 3 3 m_is_line) (G_Book___init__ : MakeOk P w K mg base CX0 C 0 "Book" 4 p_Book___init__) (F : Fun K "read" "Book.read" s_Book_read f fd) : FnOk P w K mg base CX0 6 f fd ["text"] (spD C 1 m_Book_read) := fn_mk (k := 5) F sc_Book_read hK rfl fun cdv A outer s H E c =>
    (xss_cons (xs_set (i := 1) c (x_if (t_truth c.K (x_isi (b := .str) c.K (x_var 0) T.b_isinstance T.b_str (by decide +kernel))) (x_split (x_var 0) (x_str [10])) (x_lst (xa_cons (x_str []) xa_nil))))
    (xss_cons (xs_set (i := 2) c (x_split (x_ix c.K (x_var 1) x_int) (x_str [32])))
    (xss_cons (xs_if (t_w (w_or (t_ne c (xb_len c T.b_len (xa_cons (x_var 2) xa_nil)) x_int) (w_or (t_not (t_truth c.K (x_call c G_is_kinds (xa_cons (x_ix c.K (x_var 2) x_int) xa_nil)))) (w_or1 (t_not (t_truth c.K (x_call c G_is_comers (xa_cons (x_ix c.K (x_var 2) x_int) xa_nil)))))))) (xss_one xs_never) xss_nil)
    (xss_cons (xs_set (i := 3) c (x_lstO xa_nil))
    (xss_cons (xs_for c (xi_enumA c.K T.b_enumerate (xa_cons (x_var 1) xa_nil)) (xg_tup c (xgs_cons (xg_name (i := 4) c.nd) (xgs_cons (xg_name (i := 5) c.nd) xgs_nil))) (xss_one (xs_if (t_gt (x_var 4) x_int) (xss_cons (xs_set (i := 6) c (x_call c G_line_of (xa_cons (x_var 5) xa_nil)))
    (xss_cons (xs_if (t_w (w_or (t_gt (x_var 4) (x_cvalE (i := 8) T.k_Book T.v_Book_MOST)) (w_or1 (t_not (t_truth c.K (x_call c G_is_line (xa_cons (x_var 6) (xa_cons (x_ix c.K (x_var 2) x_int) (xa_cons (x_ix c.K (x_var 2) x_int) xa_nil))))))))) (xss_one xs_never) xss_nil)
    (xss_one (xs_expr (x_app c.K (x_var 3) (x_var 6)))))) xss_nil)))
    (xss_one (xs_ret (x_makeS c G_Book___init__ T.n_Book (xa_cons (x_ix c.K (x_var 2) x_int) (xa_cons (x_ix c.K (x_var 2) x_int) (xa_star c.K (x_var 3) xa_nil)))))))))))
theorem ok__law_line_text (hK : C.K = K) (T : Txt K mg C)  (F : Fun K "_law_line_text" "_law_line_text" s__law_line_text f fd) : FnOk P w K mg base CX0 1 f fd ["_law_row"] (spD C 1 m__law_line_text) := fn_mk (k := 0) F sc__law_line_text hK rfl fun cdv A outer s H E c =>
    (xss_one (xs_ret (x_join c.K (x_str [32]) (x_lst (xa_cons (x_ix c.K (x_var 0) x_int) (xa_cons (x_ix c.K (x_var 0) x_int) (xa_cons (x_ix c.K (x_var 0) x_int) (xa_cons (x_if (t_ne c (x_ix c.K (x_var 0) x_int) (x_str [])) (x_ix c.K (x_var 0) x_int) (x_str [45])) xa_nil))))))))
theorem ok__law_book_text (hK : C.K = K) (T : Txt K mg C) (G__law_line_text : Callee P w K mg base CX0 C "_law_line_text" 1 1 m__law_line_text) (F : Fun K "_law_book_text" "_law_book_text" s__law_book_text f fd) : FnOk P w K mg base CX0 2 f fd ["_law_spec"] (spD C 1 m__law_book_text) := fn_mk (k := 1) F sc__law_book_text hK rfl fun cdv A outer s H E c =>
    (xss_one (xs_ret (x_join c.K (x_str [10]) (x_add c.K (x_lst (xa_cons (x_add c.K (x_add c.K (x_ix c.K (x_var 0) x_int) (x_str [32])) (x_ix c.K (x_var 0) x_int)) xa_nil)) (x_comp c (xi_any c.K (x_ix c.K (x_var 0) x_int)) (blkOk_by (own := [("_law_row", 1)]) (N := N__law_book_text) (sc := defScope s__law_book_text) (by decide +kernel)) (fun _ _ _ _ _ c => (xg_name (i := 1) c.nd)) (fun _ _ _ _ _ c => xts_nil) (fun _ _ _ _ _ c => (x_call c G__law_line_text (xa_cons (x_var 1) xa_nil))))))))
theorem ok__law_book (hK : C.K = K) (T : Txt K mg C) (G_Book_read : StatOk P w K mg base CX0 C 0 "read" 6 (ar 1 m_Book_read)) (G__law_book_text : Callee P w K mg base CX0 C "_law_book_text" 2 1 m__law_book_text) (F : Fun K "_law_book" "_law_book" s__law_book f fd) : FnOk P w K mg base CX0 7 f fd ["_law_spec"] (spD C 1 m__law_book) := fn_mk (k := 6) F sc__law_book hK rfl fun cdv A outer s H E c =>
    (xss_one (xs_ret (x_stat c T.k_Book G_Book_read (xa_cons (x_call c G__law_book_text (xa_cons (x_var 0) xa_nil)) xa_nil))))
theorem ok__law_begin (hK : C.K = K) (T : Txt K mg C)  (F : Fun K "_law_begin" "_law_begin" s__law_begin f fd) : FnOk P w K mg base CX0 1 f fd ["_law_start"] (spD C 1 m__law_begin) := fn_mk (k := 0) F sc__law_begin hK rfl fun cdv A outer s H E c =>
    (xss_one (xs_ret (x_comp c (xi_enumX c.K T.b_enumerate (xa_cons (x_var 0) xa_nil)) (blkOk_by (own := [("_law_at", 1), ("_law_kind", 2)]) (N := N__law_begin) (sc := defScope s__law_begin) (by decide +kernel)) (fun _ _ _ _ _ c => (xg_tup c (xgs_cons (xg_name (i := 1) c.nd) (xgs_cons (xg_name (i := 2) c.nd) xgs_nil)))) (fun _ _ _ _ _ c => xts_nil) (fun _ _ _ _ _ c => (x_tup (xa_cons (x_var 2) (xa_cons (x_neg (a := .Name "x" ⟨0, 0, 0, 0⟩)) (xa_cons (x_var 1) xa_nil))))))))
theorem ok_is_row (hK : C.K = K) (T : Txt K mg C) (G_is_string : Callee P w K mg base CX0 C "is_string" 1 2 m_is_string) (F : Fun K "is_row" "is_row" s_is_row f fd) : FnOk P w K mg base CX0 2 f fd ["value", "kinds"] (spD C 2 m_is_row) := fn_mk (k := 1) F sc_is_row hK rfl fun cdv A outer s H E c =>
    (xss_one (xs_ret (x_and (x_call c G_is_string (xa_cons (x_var 0) (xa_cons (x_var 1) xa_nil))) (x_one (x_le (xb_len c T.b_len (xa_cons (x_var 0) xa_nil)) (x_globI (i := 16) rfl T.g_MOST_ROW))))))
theorem ok_is_number (hK : C.K = K) (T : Txt K mg C)  (F : Fun K "is_number" "is_number" s_is_number f fd) : FnOk P w K mg base CX0 1 f fd ["value", "least", "most"] (spD C 3 m_is_number) := fn_mk (k := 0) F sc_is_number hK rfl fun cdv A outer s H E c =>
    (xss_one (xs_ret (x_and (x_isi (b := .int) c.K (x_var 0) T.b_isinstance T.b_int (by decide +kernel)) (x_and (x_not (x_isi (b := .bool) c.K (x_var 0) T.b_isinstance T.b_bool (by decide +kernel))) (x_one (x_chain o_le o_le p_cmp p_cmp (x_var 1) (x_var 0) (x_var 2)))))))
theorem ok_letters_of (hK : C.K = K) (T : Txt K mg C)  (F : Fun K "letters_of" "letters_of" s_letters_of f fd) : FnOk P w K mg base CX0 1 f fd ["start"] (spD C 1 m_letters_of) := fn_mk (k := 0) F sc_letters_of hK rfl fun cdv A outer s H E c =>
    (xss_one (xs_ret (x_comp c (xi_enumX c.K T.b_enumerate (xa_cons (x_var 0) xa_nil)) (blkOk_by (own := [("at", 1), ("kind", 2)]) (N := N_letters_of) (sc := defScope s_letters_of) (by decide +kernel)) (fun _ _ _ _ _ c => (xg_tup c (xgs_cons (xg_name (i := 1) c.nd) (xgs_cons (xg_name (i := 2) c.nd) xgs_nil)))) (fun _ _ _ _ _ c => xts_nil) (fun _ _ _ _ _ c => (x_tup (xa_cons (x_var 2) (xa_cons x_non (xa_cons (x_var 1) xa_nil))))))))
theorem ok_Grown___init__ {dvs : List V} {kws : List (Str × V)} (hK : C.K = K) (T : Txt K mg C) (G_is_row : Callee P w K mg base CX0 C "is_row" 2 2 m_is_row) (G_is_number : Callee P w K mg base CX0 C "is_number" 1 3 m_is_number) (G_letters_of : Callee P w K mg base CX0 C "letters_of" 1 1 m_letters_of) (F : FunD K "__init__" "Grown.__init__" (defArgs s_Grown___init__) (defBody s_Grown___init__) (defScope s_Grown___init__) dvs kws f fd) : FnOk P w K mg base CX0 3 f fd ["self", "book", "start", "limit"] (spD C 4 m_Grown___init__) := fn_mkD (k := 2) F sc_Grown___init__ hK rfl fun cdv A outer s H E c =>
    (xss_cons (xs_if (t_not (t_truth c.K (x_call c G_is_row (xa_cons (x_var 2) (xa_cons (x_fld c.K (fld_tb T.f_Book_kinds) (x_var 1)) xa_nil))))) (xss_one xs_never) xss_nil)
    (xss_cons (xs_if (t_not (t_truth c.K (x_call c G_is_number (xa_cons (x_var 3) (xa_cons (xb_max2 c T.b_max (xa_cons x_int (xa_cons (xb_len c T.b_len (xa_cons (x_var 2) xa_nil)) xa_nil))) (xa_cons (x_cvalE (i := 99) T.k_Grown T.v_Grown_MOST) xa_nil)))))) (xss_one xs_never) xss_nil)
    (xss_cons (xs_fld c.K (fld_tb T.f_Grown_book) T.hn (x_var 1) (x_var 0))
    (xss_cons (xs_fld c.K (fld_tb T.f_Grown_start) T.hn (x_var 2) (x_var 0))
    (xss_cons (xs_fld c.K (fld_tb T.f_Grown_busy) T.hn x_bl (x_var 0))
    (xss_cons (xs_fld c.K (fld_tb T.f_Grown_own_limit) T.hn (x_var 3) (x_var 0))
    (xss_cons (xs_fld c.K (fld_tb T.f_Grown_letters) T.hn (x_call c G_letters_of (xa_cons (x_var 2) xa_nil)) (x_var 0))
    (xss_cons (xs_fld c.K (fld_tb T.f_Grown_own_births) T.hn (x_lst xa_nil) (x_var 0))
    (xss_cons (xs_fld c.K (fld_tb T.f_Grown_past) T.hn (x_lst xa_nil) (x_var 0))
    (xss_one (xs_fld c.K (fld_tb T.f_Grown_ahead) T.hn (x_lst xa_nil) (x_var 0))))))))))))
theorem ok__law_some_step (hK : C.K = K) (T : Txt K mg C) (G__law_of : Callee P w K mg base CX0 C "_law_of" 2 2 m__law_of) (G__law_draw : Callee P w K mg base CX0 C "_law_draw" 1 2 m__law_draw) (F : Fun K "_law_some_step" "_law_some_step" s__law_some_step f fd) : FnOk P w K mg base CX0 3 f fd ["_law_bag", "_law_spec", "_law_state"] (spD C 3 m__law_some_step) := fn_mk (k := 2) F sc__law_some_step hK rfl fun cdv A outer s H E c =>
    (xss_one (xs_ret (x_tup (xa_cons (x_call c G__law_draw (xa_cons (x_var 0) (xa_cons (x_add c.K (xb_len c T.b_len (xa_cons (x_ix c.K (x_var 2) x_int) xa_nil)) x_int) xa_nil))) (xa_cons (x_call c G__law_of (xa_cons (x_var 0) (xa_cons (x_ix c.K (x_var 1) x_int) xa_nil))) xa_nil)))))
theorem ok_is_one (hK : C.K = K) (T : Txt K mg C)  (F : Fun K "is_one" "is_one" s_is_one f fd) : FnOk P w K mg base CX0 1 f fd ["value", "letters"] (spD C 2 m_is_one) := fn_mk (k := 0) F sc_is_one hK rfl fun cdv A outer s H E c =>
    (xss_one (xs_ret (x_and (x_isi (b := .str) c.K (x_var 0) T.b_isinstance T.b_str (by decide +kernel)) (x_and (x_eq c (xb_len c T.b_len (xa_cons (x_var 0) xa_nil)) x_int) (x_one (x_in c (x_var 0) (x_var 1)))))))
theorem ok_is_gap (hK : C.K = K) (T : Txt K mg C)  (F : Fun K "is_gap" "is_gap" s_is_gap f fd) : FnOk P w K mg base CX0 1 f fd ["value", "kinds"] (spD C 2 m_is_gap) := fn_mk (k := 0) F sc_is_gap hK rfl fun cdv A outer s H E c =>
    (xss_cons (xs_if (t_w (w_or (t_not (t_truth c.K (x_isi (b := .str) c.K (x_var 0) T.b_isinstance T.b_str (by decide +kernel)))) (w_or1 (t_ne c (xb_len c T.b_len (xa_cons (x_var 0) xa_nil)) x_int)))) (xss_one (xs_ret x_bl)) xss_nil)
    (xss_one (xs_ret (x_and (x_in c (x_ix c.K (x_var 0) x_int) (x_add c.K (x_str [60]) (x_var 1))) (x_one (x_in c (x_ix c.K (x_var 0) x_int) (x_add c.K (x_var 1) (x_str [62]))))))))
theorem ok_takes (hK : C.K = K) (T : Txt K mg C)  (F : Fun K "takes" "takes" s_takes f fd) : FnOk P w K mg base CX0 1 f fd ["part", "letter"] (spD C 2 m_takes) := fn_mk (k := 0) F sc_takes hK rfl fun cdv A outer s H E c =>
    (xss_one (xs_ret (x_or (x_eq c (x_var 0) (x_str [46])) (x_one (x_in c (x_var 1) (x_var 0))))))
theorem ok_Book_line_at (hK : C.K = K) (T : Txt K mg C) (G_is_gap : Callee P w K mg base CX0 C "is_gap" 1 2 m_is_gap) (G_is_one : Callee P w K mg base CX0 C "is_one" 1 2 m_is_one) (G_takes : Callee P w K mg base CX0 C "takes" 1 2 m_takes) (F : Fun K "line_at" "Book.line_at" s_Book_line_at f fd) : FnOk P w K mg base CX0 2 f fd ["self", "gap", "comer"] (spD C 3 m_Book_line_at) := fn_mk (k := 1) F sc_Book_line_at hK rfl fun cdv A outer s H E c =>
    (xss_cons (xs_if (t_not (t_truth c.K (x_call c G_is_gap (xa_cons (x_var 1) (xa_cons (x_fld c.K (fld_tb T.f_Book_kinds) (x_var 0)) xa_nil))))) (xss_one xs_never) xss_nil)
    (xss_cons (xs_if (t_not (t_truth c.K (x_call c G_is_one (xa_cons (x_var 2) (xa_cons (x_fld c.K (fld_tb T.f_Book_comers) (x_var 0)) xa_nil))))) (xss_one xs_never) xss_nil)
    (xss_cons (xs_for c (xi_enumA c.K T.b_enumerate (xa_cons (x_fld c.K (fld_tb T.f_Book_own_lines) (x_var 0)) xa_nil)) (xg_tup c (xgs_cons (xg_name (i := 3) c.nd) (xgs_cons (xg_name (i := 4) c.nd) xgs_nil))) (xss_one (xs_if (t_w (w_and (t_truth c.K (x_call c G_takes (xa_cons (x_ix c.K (x_var 4) x_int) (xa_cons (x_ix c.K (x_var 1) x_int) xa_nil)))) (w_and (t_truth c.K (x_call c G_takes (xa_cons (x_ix c.K (x_var 4) x_int) (xa_cons (x_var 2) xa_nil)))) (w_and1 (t_truth c.K (x_call c G_takes (xa_cons (x_ix c.K (x_var 4) x_int) (xa_cons (x_ix c.K (x_var 1) x_int) xa_nil)))))))) (xss_one (xs_ret (x_var 3))) xss_nil)))
    (xss_one (xs_ret x_non)))))
theorem ok_Book_word (hK : C.K = K) (T : Txt K mg C) (G_Book_line_at : MethOk P w K mg base CX0 C 0 "line_at" 2 (ar 3 m_Book_line_at)) (F : Fun K "word" "Book.word" s_Book_word f fd) : FnOk P w K mg base CX0 3 f fd ["self", "gap", "comer"] (spD C 3 m_Book_word) := fn_mk (k := 2) F sc_Book_word hK rfl fun cdv A outer s H E c =>
    (xss_cons (xs_set (i := 3) c (x_meth c G_Book_line_at (x_var 0) (xa_cons (x_var 1) (xa_cons (x_var 2) xa_nil))))
    (xss_one (xs_ret (x_if (t_is (x_var 3) x_non) (x_str []) (x_ix c.K (x_ix c.K (x_fld c.K (fld_tb T.f_Book_own_lines) (x_var 0)) (x_var 3)) x_int)))))
theorem ok_gap_at (hK : C.K = K) (T : Txt K mg C)  (F : Fun K "gap_at" "gap_at" s_gap_at f fd) : FnOk P w K mg base CX0 1 f fd ["row", "place"] (spD C 2 m_gap_at) := fn_mk (k := 0) F sc_gap_at hK rfl fun cdv A outer s H E c =>
    (xss_cons (xs_set (i := 2) c (x_add c.K (x_add c.K (x_str [60]) (x_var 0)) (x_str [62])))
    (xss_one (xs_ret (x_sl c.K (x_var 2) (xo_some (x_var 1)) (xo_some (x_add c.K (x_var 1) x_int))))))
theorem ok_spelled_letters (hK : C.K = K) (T : Txt K mg C)  (F : Fun K "spelled_letters" "spelled_letters" s_spelled_letters f fd) : FnOk P w K mg base CX0 1 f fd ["letters"] (spD C 1 m_spelled_letters) := fn_mk (k := 0) F sc_spelled_letters hK rfl fun cdv A outer s H E c =>
    (xss_one (xs_ret (x_join c.K (x_str []) (x_comp c (xi_any c.K (x_var 0)) (blkOk_by (own := [("letter", 1)]) (N := N_spelled_letters) (sc := defScope s_spelled_letters) (by decide +kernel)) (fun _ _ _ _ _ c => (xg_name (i := 1) c.nd)) (fun _ _ _ _ _ c => xts_nil) (fun _ _ _ _ _ c => (x_ix c.K (x_var 1) x_int))))))
theorem ok_age_of (hK : C.K = K) (T : Txt K mg C)  (F : Fun K "age_of" "age_of" s_age_of f fd) : FnOk P w K mg base CX0 1 f fd ["letter"] (spD C 1 m_age_of) := fn_mk (k := 0) F sc_age_of hK rfl fun cdv A outer s H E c =>
    (xss_one (xs_ret (x_if (t_is (x_ix c.K (x_var 0) x_int) x_non) (x_neg (a := .Name "x" ⟨0, 0, 0, 0⟩)) (x_ix c.K (x_var 0) x_int))))
theorem ok_birth_home (hK : C.K = K) (T : Txt K mg C) (G_age_of : Callee P w K mg base CX0 C "age_of" 1 1 m_age_of) (F : Fun K "birth_home" "birth_home" s_birth_home f fd) : FnOk P w K mg base CX0 2 f fd ["letters", "place"] (spD C 2 m_birth_home) := fn_mk (k := 1) F sc_birth_home hK rfl fun cdv A outer s H E c =>
    (xss_cons (xs_set (i := 2) c (x_if (t_gt (x_var 1) x_int) (x_ix c.K (x_var 0) (x_sub (x_var 1) x_int)) x_non))
    (xss_cons (xs_set (i := 3) c (x_if (t_lt (x_var 1) (xb_len c T.b_len (xa_cons (x_var 0) xa_nil))) (x_ix c.K (x_var 0) (x_var 1)) x_non))
    (xss_cons (xs_if (t_w (w_and (t_is (x_var 2) x_non) (w_and1 (t_is (x_var 3) x_non)))) (xss_one (xs_ret (x_tup (xa_cons x_non (xa_cons x_int xa_nil))))) xss_nil)
    (xss_cons (xs_if (t_w (w_or (t_is (x_var 3) x_non) (w_or1 (t_w (w_and (t_isnot (x_var 2) x_non) (w_and1 (t_gt (x_call c G_age_of (xa_cons (x_var 2) xa_nil)) (x_call c G_age_of (xa_cons (x_var 3) xa_nil))))))))) (xss_one (xs_ret (x_tup (xa_cons (x_ix c.K (x_var 2) x_int) (xa_cons (x_add c.K (x_ix c.K (x_var 2) x_int) x_int) xa_nil))))) xss_nil)
    (xss_one (xs_ret (x_tup (xa_cons (x_ix c.K (x_var 3) x_int) (xa_cons (x_ix c.K (x_var 3) x_int) xa_nil)))))))))
theorem ok_with_birth (hK : C.K = K) (T : Txt K mg C) (G_Book_word : MethOk P w K mg base CX0 C 0 "word" 3 (ar 3 m_Book_word)) (G_gap_at : Callee P w K mg base CX0 C "gap_at" 1 2 m_gap_at) (G_spelled_letters : Callee P w K mg base CX0 C "spelled_letters" 1 1 m_spelled_letters) (G_birth_home : Callee P w K mg base CX0 C "birth_home" 2 2 m_birth_home) (F : Fun K "with_birth" "with_birth" s_with_birth f fd) : FnOk P w K mg base CX0 4 f fd ["book", "letters", "births", "step"] (spD C 4 m_with_birth) := fn_mk (k := 3) F sc_with_birth hK rfl fun cdv A outer s H E c =>
    (xss_cons (xs_asg (x_var 3) (xg_tup c (xgs_cons (xg_name (i := 6) c.nd) (xgs_cons (xg_name (i := 7) c.nd) xgs_nil))))
    (xss_cons (xs_set (i := 4) c (x_meth c G_Book_word (x_var 0) (xa_cons (x_call c G_gap_at (xa_cons (x_call c G_spelled_letters (xa_cons (x_var 1) xa_nil)) (xa_cons (x_var 6) xa_nil))) (xa_cons (x_var 7) xa_nil))))
    (xss_cons (xs_if (t_eq c (x_var 4) (x_str [])) (xss_one (xs_ret (x_tup (xa_cons (x_var 1) (xa_cons (x_var 2) xa_nil))))) xss_nil)
    (xss_cons (xs_asg (x_call c G_birth_home (xa_cons (x_var 1) (xa_cons (x_var 6) xa_nil))) (xg_tup c (xgs_cons (xg_name (i := 8) c.nd) (xgs_cons (xg_name (i := 9) c.nd) xgs_nil))))
    (xss_cons (xs_setLc (i := 5) c (xi_enumX c.K T.b_enumerate (xa_cons (x_var 4) xa_nil)) (blkOk_by (own := [("at", 10), ("kind", 11)]) (N := N_with_birth) (sc := defScope s_with_birth) (by decide +kernel)) (fun _ _ _ _ _ c => (xg_tup c (xgs_cons (xg_name (i := 10) c.nd) (xgs_cons (xg_name (i := 11) c.nd) xgs_nil)))) (fun _ _ _ _ _ c => xts_nil) (fun _ _ _ _ _ c => (x_tup (xa_cons (x_var 11) (xa_cons (xb_len c T.b_len (xa_cons (x_var 2) xa_nil)) (xa_cons (x_var 10) xa_nil))))))
    (xss_one (xs_ret (x_tup (xa_cons (x_lst (xa_star c.K (x_sl c.K (x_var 1) xo_none (xo_some (x_var 6))) (xa_star c.K (x_var 5) (xa_star c.K (x_sl c.K (x_var 1) (xo_some (x_var 6)) xo_none) xa_nil)))) (xa_cons (x_lst (xa_star c.K (x_var 2) (xa_cons (x_tup (xa_cons (x_var 7) (xa_cons (x_var 4) (xa_cons (x_var 8) (xa_cons (x_var 9) xa_nil))))) xa_nil))) xa_nil))))))))))
theorem ok_Grown_put_in (hK : C.K = K) (T : Txt K mg C) (G_is_number : Callee P w K mg base CX0 C "is_number" 1 3 m_is_number) (G_with_birth : Callee P w K mg base CX0 C "with_birth" 4 4 m_with_birth) (F : Fun K "put_in" "Grown.put_in" s_Grown_put_in f fd) : FnOk P w K mg base CX0 5 f fd ["self", "step"] (spD C 2 m_Grown_put_in) := fn_mk (k := 4) F sc_Grown_put_in hK rfl fun cdv A outer s H E c =>
    (xss_cons (xs_if (t_not (t_truth c.K (x_call c G_is_number (xa_cons (x_ix c.K (x_var 1) x_int) (xa_cons x_int (xa_cons (xb_len c T.b_len (xa_cons (x_fld c.K (fld_tb T.f_Grown_letters) (x_var 0)) xa_nil)) xa_nil)))))) (xss_one xs_never) xss_nil)
    (xss_cons (xs_asg (x_call c G_with_birth (xa_cons (x_fld c.K (fld_tb T.f_Grown_book) (x_var 0)) (xa_cons (x_fld c.K (fld_tb T.f_Grown_letters) (x_var 0)) (xa_cons (x_fld c.K (fld_tb T.f_Grown_own_births) (x_var 0)) (xa_cons (x_var 1) xa_nil))))) (xg_tup c (xgs_cons (xg_name (i := 3) c.nd) (xgs_cons (xg_name (i := 4) c.nd) xgs_nil))))
    (xss_cons (xs_set (i := 2) c (x_sub (xb_len c T.b_len (xa_cons (x_var 4) xa_nil)) (xb_len c T.b_len (xa_cons (x_fld c.K (fld_tb T.f_Grown_own_births) (x_var 0)) xa_nil))))
    (xss_cons (xs_if (t_w (w_and (t_gt (x_var 2) x_int) (w_and1 (t_gt (xb_len c T.b_len (xa_cons (x_var 3) xa_nil)) (x_fld c.K (fld_tb T.f_Grown_own_limit) (x_var 0)))))) (xss_one xs_never) xss_nil)
    (xss_cons (xs_asgA (n := 2) c (xa_cons (x_var 3) (xa_cons (x_var 4) xa_nil)) (xga_fld c.K (fld_tb T.f_Grown_letters) T.hn (x_var 0) (xga_fld c.K (fld_tb T.f_Grown_own_births) T.hn (x_var 0) xga_nil)))
    (xss_one (xs_ret (x_if (t_gt (x_var 2) x_int) (x_ix c.K (x_ix c.K (x_var 4) (x_neg (a := .Name "x" ⟨0, 0, 0, 0⟩))) x_int) (x_str [])))))))))
theorem ok_Grown_turn_to (hK : C.K = K) (T : Txt K mg C)  (F : Fun K "turn_to" "Grown.turn_to" s_Grown_turn_to f fd) : FnOk P w K mg base CX0 1 f fd ["self", "letters", "births"] (spD C 3 m_Grown_turn_to) := fn_mk (k := 0) F sc_Grown_turn_to hK rfl fun cdv A outer s H E c =>
    (xss_one (xs_if (t_ne c (xb_len c T.b_len (xa_cons (x_var 2) xa_nil)) (xb_len c T.b_len (xa_cons (x_fld c.K (fld_tb T.f_Grown_own_births) (x_var 0)) xa_nil))) (xss_cons (xs_fld c.K (fld_tb T.f_Grown_past) T.hn (x_lst (xa_star c.K (x_fld c.K (fld_tb T.f_Grown_past) (x_var 0)) (xa_cons (x_tup (xa_cons (x_fld c.K (fld_tb T.f_Grown_letters) (x_var 0)) (xa_cons (x_fld c.K (fld_tb T.f_Grown_own_births) (x_var 0)) xa_nil))) xa_nil))) (x_var 0))
    (xss_cons (xs_fld c.K (fld_tb T.f_Grown_ahead) T.hn (x_lst xa_nil) (x_var 0))
    (xss_cons (xs_fld c.K (fld_tb T.f_Grown_letters) T.hn (x_var 1) (x_var 0))
    (xss_one (xs_fld c.K (fld_tb T.f_Grown_own_births) T.hn (x_var 2) (x_var 0)))))) xss_nil))
theorem bd_Grown_put_all {kV dc pm cd ct : Value} {an : Option Addr} : ∀ us rest : List Value, us.length = (["self"] : List Str).length → bindArgs (PySem.W.fnOf "put_all" "Grown.put_all" (defArgs s_Grown_put_all) (defBody s_Grown_put_all) (defScope s_Grown_put_all) .none kV dc pm an cd ct) ⟨us ++ rest, []⟩ = (newTuple rest >>= fun t => pure ((["self"] : List Str).zip us ++ [(("steps" : Str), t)])) := bind_star1 (B := fun us => bindArgs (PySem.W.fnOf "put_all" "Grown.put_all" (defArgs s_Grown_put_all) (defBody s_Grown_put_all) (defScope s_Grown_put_all) .none kV dc pm an cd ct) ⟨us, []⟩) (p1 := "self") (pv := "steps") (fun a => rfl) fun a r rs => rfl
theorem ok_Grown_put_all {oc kV dc pm cd ct : Value} {od an : Option Addr} {sl : Array (Option Value)} (hK : C.K = K) (T : Txt K mg C) (G_is_number : Callee P w K mg base CX0 C "is_number" 1 3 m_is_number) (G_is_one : Callee P w K mg base CX0 C "is_one" 1 2 m_is_one) (G_Grown_put_in : MethOk P w K mg base CX0 C 50 "put_in" 5 (ar 2 m_Grown_put_in)) (G_Grown_turn_to : MethOk P w K mg base CX0 C 50 "turn_to" 1 (ar 3 m_Grown_turn_to)) (lk : K.lookup f = some ⟨oc, od, .func (PySem.W.fnOf "put_all" "Grown.put_all" (defArgs s_Grown_put_all) (defBody s_Grown_put_all) (defScope s_Grown_put_all) .none kV dc pm an cd ct), sl⟩) (hcd : PySem.W.codeIn K cd "Grown.put_all" = true) : FnR P w K mg base CX0 6 f (spP C p_Grown_put_all) := fn_mkS (N := N_Grown_put_all) (body := b_Grown_put_all) (ps := ["self"]) (pv := "steps") (n := 1) (k := 5) lk hcd sc_Grown_put_all hK rfl bd_Grown_put_all fun cdv A outer s H E c =>
    (xss_cons (xs_for c (xi_enumA c.K T.b_enumerate (xa_cons (x_var 1) xa_nil)) (xg_tup c (xgs_cons (xg_name (i := 2) c.nd) (xgs_cons (xg_name (i := 3) c.nd) xgs_nil))) (xss_cons (xs_if (t_w (w_or (t_not (t_truth c.K (x_isi (b := .tuple) c.K (x_var 3) T.b_isinstance T.b_tuple (by decide +kernel)))) (w_or1 (t_ne c (xb_len c T.b_len (xa_cons (x_var 3) xa_nil)) x_int)))) (xss_one xs_never) xss_nil)
    (xss_one (xs_if (t_w (w_or (t_not (t_truth c.K (x_call c G_is_number (xa_cons (x_ix c.K (x_var 3) x_int) (xa_cons x_int (xa_cons (x_cvalE (i := 99) T.k_Grown T.v_Grown_MOST) xa_nil)))))) (w_or1 (t_not (t_truth c.K (x_call c G_is_one (xa_cons (x_ix c.K (x_var 3) x_int) (xa_cons (x_fld c.K (fld_tb T.f_Book_comers) (x_fld c.K (fld_tb T.f_Grown_book) (x_var 0))) xa_nil)))))))) (xss_one xs_never) xss_nil))))
    (xss_cons (xs_tupV (n := 4) c (xa_cons (x_fld c.K (fld_tb T.f_Grown_letters) (x_var 0)) (xa_cons (x_fld c.K (fld_tb T.f_Grown_own_births) (x_var 0)) (xa_cons (x_lstO xa_nil) (xa_cons x_bl xa_nil)))) (xgs_cons (xg_name (i := 4) c.nd) (xgs_cons (xg_name (i := 5) c.nd) (xgs_cons (xg_name (i := 6) c.nd) (xgs_cons (xg_name (i := 7) c.nd) xgs_nil)))))
    (xss_cons (xs_fld c.K (fld_tb T.f_Grown_busy) T.hn x_bl (x_var 0))
    (xss_cons (xs_tryF (xss_cons (xs_for c (xi_any c.K (x_var 1)) (xg_name (i := 3) c.nd) (xss_one (xs_expr (x_app c.K (x_var 6) (x_meth c G_Grown_put_in (x_var 0) (xa_cons (x_var 3) xa_nil))))))
    (xss_one (xs_set (i := 7) c x_bl)))
    (xss_cons (xs_par (i := 8) (j := 9) c (xa_cons (x_fld c.K (fld_tb T.f_Grown_letters) (x_var 0)) (xa_cons (x_fld c.K (fld_tb T.f_Grown_own_births) (x_var 0)) xa_nil)))
    (xss_cons (xs_asgA (n := 2) c (xa_cons (x_var 4) (xa_cons (x_var 5) xa_nil)) (xga_fld c.K (fld_tb T.f_Grown_letters) T.hn (x_var 0) (xga_fld c.K (fld_tb T.f_Grown_own_births) T.hn (x_var 0) xga_nil)))
    (xss_one (xs_fld c.K (fld_tb T.f_Grown_busy) T.hn x_bl (x_var 0))))) fun _ _ z => z)
    (xss_cons (xs_if (t_truth c.K (x_var 7)) (xss_one (xs_expr (x_meth c G_Grown_turn_to (x_var 0) (xa_cons (x_var 8) (xa_cons (x_var 9) xa_nil))))) xss_nil)
    (xss_one (xs_frz 6 (xs_ret (x_var 6)))))))))
theorem ok_Grown_put (hK : C.K = K) (T : Txt K mg C) (G_is_number : Callee P w K mg base CX0 C "is_number" 1 3 m_is_number) (G_is_one : Callee P w K mg base CX0 C "is_one" 1 2 m_is_one) (G_Grown_put_all : MethOk P w K mg base CX0 C 50 "put_all" 6 p_Grown_put_all) (F : Fun K "put" "Grown.put" s_Grown_put f fd) : FnOk P w K mg base CX0 7 f fd ["self", "place", "comer"] (spD C 3 m_Grown_put) := fn_mk (k := 6) F sc_Grown_put hK rfl fun cdv A outer s H E c =>
    (xss_cons (xs_if (t_not (t_truth c.K (x_call c G_is_number (xa_cons (x_var 1) (xa_cons x_int (xa_cons (xb_len c T.b_len (xa_cons (x_fld c.K (fld_tb T.f_Grown_letters) (x_var 0)) xa_nil)) xa_nil)))))) (xss_one xs_never) xss_nil)
    (xss_cons (xs_if (t_not (t_truth c.K (x_call c G_is_one (xa_cons (x_var 2) (xa_cons (x_fld c.K (fld_tb T.f_Book_comers) (x_fld c.K (fld_tb T.f_Grown_book) (x_var 0))) xa_nil))))) (xss_one xs_never) xss_nil)
    (xss_one (xs_ret (x_ix c.K (x_meth c G_Grown_put_all (x_var 0) (xa_cons (x_tup (xa_cons (x_var 1) (xa_cons (x_var 2) xa_nil))) xa_nil)) x_int)))))
theorem ok__law_fits (hK : C.K = K) (T : Txt K mg C)  (F : Fun K "_law_fits" "_law_fits" s__law_fits f fd) : FnOk P w K mg base CX0 1 f fd ["_law_part_here", "_law_letter"] (spD C 2 m__law_fits) := fn_mk (k := 0) F sc__law_fits hK rfl fun cdv A outer s H E c =>
    (xss_one (xs_ret (x_or (x_eq c (x_var 0) (x_str [46])) (x_one (x_in c (x_var 1) (x_var 0))))))
theorem ok__law_line_at (hK : C.K = K) (T : Txt K mg C) (G__law_fits : Callee P w K mg base CX0 C "_law_fits" 1 2 m__law_fits) (F : Fun K "_law_line_at" "_law_line_at" s__law_line_at f fd) : FnOk P w K mg base CX0 2 f fd ["_law_spec", "_law_gap", "_law_comer"] (spD C 3 m__law_line_at) := fn_mk (k := 1) F sc__law_line_at hK rfl fun cdv A outer s H E c =>
    (xss_cons (xs_for c (xi_enumA c.K T.b_enumerate (xa_cons (x_ix c.K (x_var 0) x_int) xa_nil)) (xg_tup c (xgs_cons (xg_name (i := 3) c.nd) (xgs_cons (xg_name (i := 4) c.nd) xgs_nil))) (xss_cons (xs_set (i := 5) c (x_lst (xa_cons (x_call c G__law_fits (xa_cons (x_ix c.K (x_var 4) x_int) (xa_cons (x_ix c.K (x_var 1) x_int) xa_nil))) (xa_cons (x_call c G__law_fits (xa_cons (x_ix c.K (x_var 4) x_int) (xa_cons (x_var 2) xa_nil))) (xa_cons (x_call c G__law_fits (xa_cons (x_ix c.K (x_var 4) x_int) (xa_cons (x_ix c.K (x_var 1) x_int) xa_nil))) xa_nil)))))
    (xss_one (xs_if (t_truth c.K (xb_all c T.b_all (xa_cons (x_var 5) xa_nil))) (xss_one (xs_ret (x_var 3))) xss_nil))))
    (xss_one (xs_ret x_non)))
theorem ok__law_word (hK : C.K = K) (T : Txt K mg C) (G__law_line_at : Callee P w K mg base CX0 C "_law_line_at" 2 3 m__law_line_at) (F : Fun K "_law_word" "_law_word" s__law_word f fd) : FnOk P w K mg base CX0 3 f fd ["_law_spec", "_law_gap", "_law_comer"] (spD C 3 m__law_word) := fn_mk (k := 2) F sc__law_word hK rfl fun cdv A outer s H E c =>
    (xss_cons (xs_set (i := 3) c (x_call c G__law_line_at (xa_cons (x_var 0) (xa_cons (x_var 1) (xa_cons (x_var 2) xa_nil)))))
    (xss_one (xs_ret (x_if (t_is (x_var 3) x_non) (x_str []) (x_ix c.K (x_ix c.K (x_ix c.K (x_var 0) x_int) (x_var 3)) x_int)))))
theorem ok__law_parts (hK : C.K = K) (T : Txt K mg C)  (F : Fun K "_law_parts" "_law_parts" s__law_parts f fd) : FnOk P w K mg base CX0 1 f fd ["_law_gap", "_law_word_here"] (spD C 2 m__law_parts) := fn_mk (k := 0) F sc__law_parts hK rfl fun cdv A outer s H E c =>
    (xss_cons (xs_set (i := 2) c (x_add c.K (x_add c.K (x_ix c.K (x_var 0) x_int) (x_var 1)) (x_ix c.K (x_var 0) x_int)))
    (xss_one (xs_ret (x_comp c (xi_rng1 T.b_range (xa_cons (x_add c.K (xb_len c T.b_len (xa_cons (x_var 1) xa_nil)) x_int) xa_nil)) (blkOk_by (own := [("_law_at", 3)]) (N := N__law_parts) (sc := defScope s__law_parts) (by decide +kernel)) (fun _ _ _ _ _ c => (xg_name (i := 3) c.nd)) (fun _ _ _ _ _ c => xts_nil) (fun _ _ _ _ _ c => (x_sl c.K (x_var 2) (xo_some (x_var 3)) (xo_some (x_add c.K (x_var 3) x_int))))))))
theorem ok__law_row_gaps (hK : C.K = K) (T : Txt K mg C) (G__law_parts : Callee P w K mg base CX0 C "_law_parts" 1 2 m__law_parts) (F : Fun K "_law_row_gaps" "_law_row_gaps" s__law_row_gaps f fd) : FnOk P w K mg base CX0 2 f fd ["_law_row"] (spD C 1 m__law_row_gaps) := fn_mk (k := 1) F sc__law_row_gaps hK rfl fun cdv A outer s H E c =>
    (xss_one (xs_ret (x_call c G__law_parts (xa_cons (x_str [60, 62]) (xa_cons (x_var 0) xa_nil)))))
theorem ok__law_home (hK : C.K = K) (T : Txt K mg C)  (F : Fun K "_law_home" "_law_home" s__law_home f fd) : FnOk P w K mg base CX0 1 f fd ["_law_letters_here", "_law_place"] (spD C 2 m__law_home) := fn_mk (k := 0) F sc__law_home hK rfl fun cdv A outer s H E c =>
    (xss_cons (xs_par (i := 2) (j := 3) c (xa_cons (x_sl c.K (x_var 0) (xo_some (xb_max2 c T.b_max (xa_cons (x_sub (x_var 1) x_int) (xa_cons x_int xa_nil)))) (xo_some (x_var 1))) (xa_cons (x_sl c.K (x_var 0) (xo_some (x_var 1)) (xo_some (x_add c.K (x_var 1) x_int))) xa_nil)))
    (xss_cons (xs_if (t_w (w_and (t_eq c (x_var 2) (x_lst xa_nil)) (w_and1 (t_eq c (x_var 3) (x_lst xa_nil))))) (xss_one (xs_ret (x_tup (xa_cons (x_neg (a := .Name "x" ⟨0, 0, 0, 0⟩)) (xa_cons x_int xa_nil))))) xss_nil)
    (xss_cons (xs_if (t_w (w_or (t_eq c (x_var 3) (x_lst xa_nil)) (w_or1 (t_w (w_and (t_ne c (x_var 2) (x_lst xa_nil)) (w_and1 (t_gt (x_ix c.K (x_ix c.K (x_var 2) x_int) x_int) (x_ix c.K (x_ix c.K (x_var 3) x_int) x_int)))))))) (xss_one (xs_ret (x_tup (xa_cons (x_ix c.K (x_ix c.K (x_var 2) x_int) x_int) (xa_cons (x_add c.K (x_ix c.K (x_ix c.K (x_var 2) x_int) x_int) x_int) xa_nil))))) xss_nil)
    (xss_one (xs_ret (x_tup (xa_cons (x_ix c.K (x_ix c.K (x_var 3) x_int) x_int) (xa_cons (x_ix c.K (x_ix c.K (x_var 3) x_int) x_int) xa_nil))))))))
theorem ok__law_put (hK : C.K = K) (T : Txt K mg C) (G__law_word : Callee P w K mg base CX0 C "_law_word" 3 3 m__law_word) (G__law_row_gaps : Callee P w K mg base CX0 C "_law_row_gaps" 2 1 m__law_row_gaps) (G__law_home : Callee P w K mg base CX0 C "_law_home" 1 2 m__law_home) (F : Fun K "_law_put" "_law_put" s__law_put f fd) : FnOk P w K mg base CX0 4 f fd ["_law_spec", "_law_state", "_law_step"] (spD C 3 m__law_put) := fn_mk (k := 3) F sc__law_put hK rfl fun cdv A outer s H E c =>
    (xss_cons (xs_asg (x_var 1) (xg_tup c (xgs_cons (xg_name (i := 7) c.nd) (xgs_cons (xg_name (i := 8) c.nd) xgs_nil))))
    (xss_cons (xs_asg (x_var 2) (xg_tup c (xgs_cons (xg_name (i := 9) c.nd) (xgs_cons (xg_name (i := 10) c.nd) xgs_nil))))
    (xss_cons (xs_set (i := 3) c (x_join c.K (x_str []) (x_comp c (xi_any c.K (x_var 7)) (blkOk_by (own := [("_law_letter", 11)]) (N := N__law_put) (sc := defScope s__law_put) (by decide +kernel)) (fun _ _ _ _ _ c => (xg_name (i := 11) c.nd)) (fun _ _ _ _ _ c => xts_nil) (fun _ _ _ _ _ c => (x_ix c.K (x_var 11) x_int)))))
    (xss_cons (xs_set (i := 4) c (x_call c G__law_word (xa_cons (x_var 0) (xa_cons (x_ix c.K (x_call c G__law_row_gaps (xa_cons (x_var 3) xa_nil)) (x_var 9)) (xa_cons (x_var 10) xa_nil)))))
    (xss_cons (xs_if (t_eq c (x_var 4) (x_str [])) (xss_one (xs_ret (x_var 1))) xss_nil)
    (xss_cons (xs_set (i := 5) c (x_call c G__law_home (xa_cons (x_var 7) (xa_cons (x_var 9) xa_nil))))
    (xss_cons (xs_setLc (i := 6) c (xi_enumX c.K T.b_enumerate (xa_cons (x_var 4) xa_nil)) (blkOk_by (own := [("_law_at", 12), ("_law_kind", 13)]) (N := N__law_put) (sc := defScope s__law_put) (by decide +kernel)) (fun _ _ _ _ _ c => (xg_tup c (xgs_cons (xg_name (i := 12) c.nd) (xgs_cons (xg_name (i := 13) c.nd) xgs_nil)))) (fun _ _ _ _ _ c => xts_nil) (fun _ _ _ _ _ c => (x_tup (xa_cons (x_var 13) (xa_cons (xb_len c T.b_len (xa_cons (x_var 8) xa_nil)) (xa_cons (x_var 12) xa_nil))))))
    (xss_one (xs_ret (x_tup (xa_cons (x_add c.K (x_add c.K (x_sl c.K (x_var 7) xo_none (xo_some (x_var 9))) (x_var 6)) (x_sl c.K (x_var 7) (xo_some (x_var 9)) xo_none)) (xa_cons (x_add c.K (x_var 8) (x_lst (xa_cons (x_tup (xa_cons (x_var 10) (xa_cons (x_var 4) (xa_cons (x_ix c.K (x_var 5) x_int) (xa_cons (x_ix c.K (x_var 5) x_int) xa_nil))))) xa_nil))) xa_nil))))))))))))
theorem ok__law_take_due (hK : C.K = K) (T : Txt K mg C)  (F : Fun K "_law_take_due" "_law_take_due" s__law_take_due f fd) : FnOk P w K mg base CX0 1 f fd ["_law_state", "_law_at"] (spD C 2 m__law_take_due) := fn_mk (k := 0) F sc__law_take_due hK rfl fun cdv A outer s H E c =>
    (xss_cons (xs_if (t_w (w_or (t_truth c.K (x_isi (b := .bool) c.K (x_var 1) T.b_isinstance T.b_bool (by decide +kernel))) (w_or (t_not (t_truth c.K (x_isi (b := .int) c.K (x_var 1) T.b_isinstance T.b_int (by decide +kernel)))) (w_or1 (t_not (t_chain o_le o_lt p_cmp p_cmp x_int (x_var 1) (xb_len c T.b_len (xa_cons (x_ix c.K (x_var 0) x_int) xa_nil)))))))) (xss_one (xs_ret (x_tup (xa_cons (x_str [85, 110, 107, 110, 111, 119, 110, 76, 101, 116, 116, 101, 114]) (xa_cons (x_var 1) xa_nil))))) xss_nil)
    (xss_cons (xs_set (i := 2) c (x_ix c.K (x_ix c.K (x_ix c.K (x_var 0) x_int) (x_var 1)) x_int))
    (xss_cons (xs_if (t_lt (x_var 2) x_int) (xss_one (xs_ret (x_tup (xa_cons (x_str [78, 111, 116, 66, 111, 114, 110]) (xa_cons (x_var 1) xa_nil))))) xss_nil)
    (xss_one (xs_ret (x_if (t_in c (x_var 2) (x_comp c (xi_any c.K (x_ix c.K (x_var 0) x_int)) (blkOk_by (own := [("_law_birth", 3)]) (N := N__law_take_due) (sc := defScope s__law_take_due) (by decide +kernel)) (fun _ _ _ _ _ c => (xg_name (i := 3) c.nd)) (fun _ _ _ _ _ c => xts_nil) (fun _ _ _ _ _ c => (x_ix c.K (x_var 3) x_int)))) (x_tup (xa_cons (x_str [78, 111, 116, 70, 114, 101, 101]) (xa_cons (x_var 1) xa_nil))) (x_tup (xa_cons (x_str []) (xa_cons (x_ix c.K (x_ix c.K (x_ix c.K (x_var 0) x_int) (x_var 2)) x_int) xa_nil)))))))))
theorem ok_lowered (hK : C.K = K) (T : Txt K mg C)  (F : Fun K "lowered" "lowered" s_lowered f fd) : FnOk P w K mg base CX0 1 f fd ["index", "gone"] (spD C 2 m_lowered) := fn_mk (k := 0) F sc_lowered hK rfl fun cdv A outer s H E c =>
    (xss_one (xs_ret (x_if (t_w (w_and (t_isnot (x_var 0) x_non) (w_and1 (t_gt (x_var 0) (x_var 1))))) (x_sub (x_var 0) x_int) (x_var 0))))
theorem ok_without_birth (hK : C.K = K) (T : Txt K mg C) (G_lowered : Callee P w K mg base CX0 C "lowered" 1 2 m_lowered) (F : Fun K "without_birth" "without_birth" s_without_birth f fd) : FnOk P w K mg base CX0 2 f fd ["letters", "births", "gone"] (spD C 3 m_without_birth) := fn_mk (k := 1) F sc_without_birth hK rfl fun cdv A outer s H E c =>
    (xss_cons (xs_setLc (i := 3) c (xi_any c.K (x_var 0)) (blkOk_by (own := [("kind", 5), ("owner", 6), ("at", 7)]) (N := N_without_birth) (sc := defScope s_without_birth) (by decide +kernel)) (fun _ _ _ _ _ c => (xg_tup c (xgs_cons (xg_name (i := 5) c.nd) (xgs_cons (xg_name (i := 6) c.nd) (xgs_cons (xg_name (i := 7) c.nd) xgs_nil))))) (fun _ _ _ _ _ c => (xts_one (t_ne c (x_var 6) (x_var 2)))) (fun _ _ _ _ _ c => (x_tup (xa_cons (x_var 5) (xa_cons (x_call c G_lowered (xa_cons (x_var 6) (xa_cons (x_var 2) xa_nil))) (xa_cons (x_var 7) xa_nil))))))
    (xss_cons (xs_setLc (i := 4) c (xi_any c.K (x_var 1)) (blkOk_by (own := [("comer", 8), ("word", 9), ("parent", 10), ("part", 11)]) (N := N_without_birth) (sc := defScope s_without_birth) (by decide +kernel)) (fun _ _ _ _ _ c => (xg_tup c (xgs_cons (xg_name (i := 8) c.nd) (xgs_cons (xg_name (i := 9) c.nd) (xgs_cons (xg_name (i := 10) c.nd) (xgs_cons (xg_name (i := 11) c.nd) xgs_nil)))))) (fun _ _ _ _ _ c => xts_nil) (fun _ _ _ _ _ c => (x_tup (xa_cons (x_var 8) (xa_cons (x_var 9) (xa_cons (x_call c G_lowered (xa_cons (x_var 10) (xa_cons (x_var 2) xa_nil))) (xa_cons (x_var 11) xa_nil)))))))
    (xss_one (xs_ret (x_tup (xa_cons (x_var 3) (xa_cons (x_comp c (xi_enumA c.K T.b_enumerate (xa_cons (x_var 4) xa_nil)) (blkOk_by (own := [("at", 7), ("row", 12)]) (N := N_without_birth) (sc := defScope s_without_birth) (by decide +kernel)) (fun _ _ _ _ _ c => (xg_tup c (xgs_cons (xg_name (i := 7) c.nd) (xgs_cons (xg_name (i := 12) c.nd) xgs_nil)))) (fun _ _ _ _ _ c => (xts_one (t_ne c (x_var 7) (x_var 2)))) (fun _ _ _ _ _ c => (x_var 12))) xa_nil)))))))
theorem ok_Grown_take (hK : C.K = K) (T : Txt K mg C) (G_is_number : Callee P w K mg base CX0 C "is_number" 1 3 m_is_number) (G_without_birth : Callee P w K mg base CX0 C "without_birth" 2 3 m_without_birth) (G_Grown_turn_to : MethOk P w K mg base CX0 C 50 "turn_to" 1 (ar 3 m_Grown_turn_to)) (F : Fun K "take" "Grown.take" s_Grown_take f fd) : FnOk P w K mg base CX0 3 f fd ["self", "at"] (spD C 2 m_Grown_take) := fn_mk (k := 2) F sc_Grown_take hK rfl fun cdv A outer s H E c =>
    (xss_cons (xs_if (t_not (t_truth c.K (x_call c G_is_number (xa_cons (x_var 1) (xa_cons x_int (xa_cons (x_sub (xb_len c T.b_len (xa_cons (x_fld c.K (fld_tb T.f_Grown_letters) (x_var 0)) xa_nil)) x_int) xa_nil)))))) (xss_one xs_never) xss_nil)
    (xss_cons (xs_set (i := 2) c (x_ix c.K (x_ix c.K (x_fld c.K (fld_tb T.f_Grown_letters) (x_var 0)) (x_var 1)) x_int))
    (xss_cons (xs_if (t_is (x_var 2) x_non) (xss_one xs_never) xss_nil)
    (xss_cons (xs_if (t_in c (x_var 2) (x_comp c (xi_any c.K (x_fld c.K (fld_tb T.f_Grown_own_births) (x_var 0))) (blkOk_by (own := [("birth", 6)]) (N := N_Grown_take) (sc := defScope s_Grown_take) (by decide +kernel)) (fun _ _ _ _ _ c => (xg_name (i := 6) c.nd)) (fun _ _ _ _ _ c => xts_nil) (fun _ _ _ _ _ c => (x_ix c.K (x_var 6) x_int)))) (xss_one xs_never) xss_nil)
    (xss_cons (xs_set (i := 3) c (x_ix c.K (x_ix c.K (x_fld c.K (fld_tb T.f_Grown_own_births) (x_var 0)) (x_var 2)) x_int))
    (xss_cons (xs_asg (x_call c G_without_birth (xa_cons (x_fld c.K (fld_tb T.f_Grown_letters) (x_var 0)) (xa_cons (x_fld c.K (fld_tb T.f_Grown_own_births) (x_var 0)) (xa_cons (x_var 2) xa_nil)))) (xg_tup c (xgs_cons (xg_name (i := 4) c.nd) (xgs_cons (xg_name (i := 5) c.nd) xgs_nil))))
    (xss_cons (xs_expr (x_meth c G_Grown_turn_to (x_var 0) (xa_cons (x_var 4) (xa_cons (x_var 5) xa_nil))))
    (xss_one (xs_ret (x_var 3))))))))))
theorem ok__law_less (hK : C.K = K) (T : Txt K mg C)  (F : Fun K "_law_less" "_law_less" s__law_less f fd) : FnOk P w K mg base CX0 1 f fd ["_law_number", "_law_gone"] (spD C 2 m__law_less) := fn_mk (k := 0) F sc__law_less hK rfl fun cdv A outer s H E c =>
    (xss_one (xs_ret (x_if (t_gt (x_var 0) (x_var 1)) (x_sub (x_var 0) x_int) (x_var 0))))
theorem ok__law_taken (hK : C.K = K) (T : Txt K mg C) (G__law_less : Callee P w K mg base CX0 C "_law_less" 1 2 m__law_less) (F : Fun K "_law_taken" "_law_taken" s__law_taken f fd) : FnOk P w K mg base CX0 2 f fd ["_law_state", "_law_gone"] (spD C 2 m__law_taken) := fn_mk (k := 1) F sc__law_taken hK rfl fun cdv A outer s H E c =>
    (xss_cons (xs_setLc (i := 2) c (xi_any c.K (x_ix c.K (x_var 0) x_int)) (blkOk_by (own := [("_law_letter", 4)]) (N := N__law_taken) (sc := defScope s__law_taken) (by decide +kernel)) (fun _ _ _ _ _ c => (xg_name (i := 4) c.nd)) (fun _ _ _ _ _ c => (xts_one (t_ne c (x_ix c.K (x_var 4) x_int) (x_var 1)))) (fun _ _ _ _ _ c => (x_tup (xa_cons (x_ix c.K (x_var 4) x_int) (xa_cons (x_call c G__law_less (xa_cons (x_ix c.K (x_var 4) x_int) (xa_cons (x_var 1) xa_nil))) (xa_cons (x_ix c.K (x_var 4) x_int) xa_nil))))))
    (xss_cons (xs_setLc (i := 3) c (xi_any c.K (x_ix c.K (x_var 0) x_int)) (blkOk_by (own := [("_law_birth", 5)]) (N := N__law_taken) (sc := defScope s__law_taken) (by decide +kernel)) (fun _ _ _ _ _ c => (xg_name (i := 5) c.nd)) (fun _ _ _ _ _ c => xts_nil) (fun _ _ _ _ _ c => (x_tup (xa_cons (x_ix c.K (x_var 5) x_int) (xa_cons (x_ix c.K (x_var 5) x_int) (xa_cons (x_call c G__law_less (xa_cons (x_ix c.K (x_var 5) x_int) (xa_cons (x_var 1) xa_nil))) (xa_cons (x_ix c.K (x_var 5) x_int) xa_nil)))))))
    (xss_one (xs_ret (x_tup (xa_cons (x_var 2) (xa_cons (x_add c.K (x_sl c.K (x_var 3) xo_none (xo_some (x_var 1))) (x_sl c.K (x_var 3) (xo_some (x_add c.K (x_var 1) x_int)) xo_none)) xa_nil)))))))
theorem ok__law_try_take (hK : C.K = K) (T : Txt K mg C) (G__law_draw : Callee P w K mg base CX0 C "_law_draw" 1 2 m__law_draw) (G__law_take_due : Callee P w K mg base CX0 C "_law_take_due" 1 2 m__law_take_due) (G_Grown_take : MethOk P w K mg base CX0 C 50 "take" 3 (ar 2 m_Grown_take)) (G__law_taken : Callee P w K mg base CX0 C "_law_taken" 2 2 m__law_taken) (F : Fun K "_law_try_take" "_law_try_take" s__law_try_take f fd) : FnOk P w K mg base CX0 4 f fd ["_law_bag", "_law_grown", "_law_state"] (spD C 3 m__law_try_take) := fn_mk (k := 3) F sc__law_try_take hK rfl fun cdv A outer s H E c =>
    (xss_cons (xs_set (i := 3) c (x_call c G__law_draw (xa_cons (x_var 0) (xa_cons (x_add c.K (xb_len c T.b_len (xa_cons (x_ix c.K (x_var 2) x_int) xa_nil)) x_int) xa_nil))))
    (xss_cons (xs_if (t_ne c (x_ix c.K (x_call c G__law_take_due (xa_cons (x_var 2) (xa_cons (x_var 3) xa_nil))) x_int) (x_str [])) (xss_one (xs_ret (x_var 2))) xss_nil)
    (xss_cons (xs_expr (x_meth c G_Grown_take (x_var 1) (xa_cons (x_var 3) xa_nil)))
    (xss_one (xs_ret (x_call c G__law_taken (xa_cons (x_var 2) (xa_cons (x_ix c.K (x_ix c.K (x_ix c.K (x_var 2) x_int) (x_var 3)) x_int) xa_nil))))))))
theorem ok_Grown_births (hK : C.K = K) (T : Txt K mg C)  (F : Fun K "births" "Grown.births" s_Grown_births f fd) : FnOk P w K mg base CX0 1 f fd ["self"] (spD C 1 m_Grown_births) := fn_mk (k := 0) F sc_Grown_births hK rfl fun cdv A outer s H E c =>
    (xss_one (xs_ret (xb_list c T.b_list (xa_cons (x_fld c.K (fld_tb T.f_Grown_own_births) (x_var 0)) xa_nil))))
theorem ok_columns_o (hK : C.K = K) (T : Txt K mg C) (G_Grown_births : MethOk P w K mg base CX0 C 50 "births" 1 (ar 1 m_Grown_births)) (F : Fun K "columns" "columns" s_columns_o f fd) : FnOk P w K mg base CX0 2 f fd ["grown"] (spD C 1 m_columns_o) := fn_mk (k := 1) F sc_columns_o hK rfl fun cdv A outer s H E c =>
    (xss_cons (xs_set (i := 1) c (x_lstO xa_nil))
    (xss_cons (xs_for c (xi_enumA c.K T.b_enumerate (xa_cons (x_meth0 c G_Grown_births (x_var 0)) xa_nil)) (xg_tup c (xgs_cons (xg_name (i := 2) c.nd) (xgs_cons (xg_tup c (xgs_cons (xg_name (i := 4) c.nd) (xgs_cons (xg_name (i := 5) c.nd) (xgs_cons (xg_name (i := 6) c.nd) (xgs_cons (xg_name (i := 7) c.nd) xgs_nil))))) xgs_nil))) (xss_cons (xs_set (i := 3) c (x_if (t_is (x_var 6) x_non) (x_str [45]) (xb_str T.b_str (xa_cons (x_var 6) xa_nil))))
    (xss_one (xs_expr (x_app c.K (x_var 1) (x_fstr (xj_cons (x_fmtN (x_var 2)) (xj_cons (x_str [32]) (xj_cons (x_fmt (x_var 4)) (xj_cons (x_str [32]) (xj_cons (x_fmtS spOk2 (x_var 5)) (xj_cons (x_str [32]) (xj_cons (x_fmtS spOk1 (x_var 3)) (xj_cons (x_str [32]) (xj_cons (x_fmt (x_var 7)) xj_nil)))))))))))))))
    (xss_one (xs_ret (x_var 1)))))
theorem ok__law_same (hK : C.K = K) (T : Txt K mg C)  (F : Fun K "_law_same" "_law_same" s__law_same f fd) (hm : mg "_law_same" = some (.ref f)) (bd : Binds K fd ["_law_found", "_law_due"] []) : ∀ n : Nat, FnOk P w K mg base CX0 (0 + n + 1) f fd ["_law_found", "_law_due"] (spD C 2 (m__law_same n))
  | 0 => fn_fail rfl
  | n + 1 => by
    have R := callee_mk F (ok__law_same hK T  F hm bd n) hm bd
    exact fn_mk (k := 0 + n + 1) F sc__law_same hK rfl fun cdv A outer s H E c => (xss_cons (xs_if (t_w (w_or (t_is (x_var 1) x_non) (w_or1 (t_is (x_var 0) x_non)))) (xss_one (xs_ret (x_and (x_is (x_var 1) x_non) (x_one (x_is (x_var 0) x_non))))) xss_nil)
    (xss_cons (xs_if (t_truth c.K (x_isi2 (b := .list) (b2 := .tuple) c.K (x_var 1) T.b_isinstance T.b_list T.b_tuple (by decide +kernel) (by decide +kernel))) (xss_cons (xs_if (t_ne c (x_isi (b := .list) c.K (x_var 0) T.b_isinstance T.b_list (by decide +kernel)) (x_isi (b := .list) c.K (x_var 1) T.b_isinstance T.b_list (by decide +kernel))) (xss_one (xs_ret x_bl)) xss_nil)
    (xss_cons (xs_if (t_w (w_or (t_ne c (x_isi (b := .tuple) c.K (x_var 0) T.b_isinstance T.b_tuple (by decide +kernel)) (x_isi (b := .tuple) c.K (x_var 1) T.b_isinstance T.b_tuple (by decide +kernel))) (w_or1 (t_ne c (xb_len c T.b_len (xa_cons (x_var 0) xa_nil)) (xb_len c T.b_len (xa_cons (x_var 1) xa_nil)))))) (xss_one (xs_ret x_bl)) xss_nil)
    (xss_one (xs_ret (xb_all c T.b_all (xa_cons (x_comp c (xi_zip c.K T.b_zip (xa_cons (x_var 0) (xa_cons (x_var 1) xa_nil))) (blkOk_by (own := [("_law_a", 2), ("_law_b", 3)]) (N := N__law_same) (sc := defScope s__law_same) (by decide +kernel)) (fun _ _ _ _ _ c => (xg_tup c (xgs_cons (xg_name (i := 2) c.nd) (xgs_cons (xg_name (i := 3) c.nd) xgs_nil)))) (fun _ _ _ _ _ c => xts_nil) (fun _ _ _ _ _ c => (x_callR c R (xa_cons (x_var 2) (xa_cons (x_var 3) xa_nil))))) xa_nil)))))) xss_nil)
    (xss_cons (xs_if (t_truth c.K (x_isi2 (b := .list) (b2 := .tuple) c.K (x_var 0) T.b_isinstance T.b_list T.b_tuple (by decide +kernel) (by decide +kernel))) (xss_one (xs_ret x_bl)) xss_nil)
    (xss_cons (xs_if (t_ne c (x_isi (b := .bool) c.K (x_var 0) T.b_isinstance T.b_bool (by decide +kernel)) (x_isi (b := .bool) c.K (x_var 1) T.b_isinstance T.b_bool (by decide +kernel))) (xss_one (xs_ret x_bl)) xss_nil)
    (xss_cons (xs_if (t_ne c (x_isi (b := .int) c.K (x_var 0) T.b_isinstance T.b_int (by decide +kernel)) (x_isi (b := .int) c.K (x_var 1) T.b_isinstance T.b_int (by decide +kernel))) (xss_one (xs_ret x_bl)) xss_nil)
    (xss_one (xs_ret (x_and (x_eq c (x_isi (b := .str) c.K (x_var 0) T.b_isinstance T.b_str (by decide +kernel)) (x_isi (b := .str) c.K (x_var 1) T.b_isinstance T.b_str (by decide +kernel))) (x_one (x_eq c (x_var 0) (x_var 1)))))))))))
theorem ok_columns (hK : C.K = K) (T : Txt K mg C) (G_Grown_births : MethOk P w K mg base CX0 C 50 "births" 1 (ar 1 m_Grown_births)) (F : Fun K "columns" "columns" s_columns f fd) : FnOk P w K mg base CX0 2 f fd ["grown"] (spD C 1 m_columns) := fn_mk (k := 1) F sc_columns hK rfl fun cdv A outer s H E c =>
    (xss_cons (xs_set (i := 1) c (x_lstO xa_nil))
    (xss_cons (xs_for c (xi_enumA c.K T.b_enumerate (xa_cons (x_meth0 c G_Grown_births (x_var 0)) xa_nil)) (xg_tup c (xgs_cons (xg_name (i := 2) c.nd) (xgs_cons (xg_tup c (xgs_cons (xg_name (i := 4) c.nd) (xgs_cons (xg_name (i := 5) c.nd) (xgs_cons (xg_name (i := 6) c.nd) (xgs_cons (xg_name (i := 7) c.nd) xgs_nil))))) xgs_nil))) (xss_cons (xs_set (i := 3) c (x_if (t_is (x_var 6) x_non) (x_str [45]) (xb_str T.b_str (xa_cons (x_var 6) xa_nil))))
    (xss_one (xs_expr (x_app c.K (x_var 1) (x_fstr (xj_cons (x_fmtN (x_var 2)) (xj_cons (x_str [32]) (xj_cons (x_fmt (x_var 4)) (xj_cons (x_str [32]) (xj_cons (x_fmtS spOk2 (x_var 5)) (xj_cons (x_str [32]) (xj_cons (x_fmtS spOk1 (x_var 3)) (xj_cons (x_str [32]) (xj_cons (x_fmt (x_var 7)) xj_nil)))))))))))))))
    (xss_one (xs_frz 1 (xs_ret (x_var 1))))))
theorem ok_law (hK : C.K = K) (T : Txt K mg C) (G__law_open : Callee P w K mg base CX0 C "_law_open" 1 1 m__law_open) (G__law_some_book : Callee P w K mg base CX0 C "_law_some_book" 5 2 m__law_some_book) (G__law_string : Callee P w K mg base CX0 C "_law_string" 3 3 m__law_string) (G__law_book : Callee P w K mg base CX0 C "_law_book" 7 1 m__law_book) (G__law_begin : Callee P w K mg base CX0 C "_law_begin" 1 1 m__law_begin) (J_Grown___init__ : MakeKOk P w K mg base CX0 C 50 "Grown" "limit" 3 2 m_Grown___init__) (G__law_draw : Callee P w K mg base CX0 C "_law_draw" 1 2 m__law_draw) (G__law_some_step : Callee P w K mg base CX0 C "_law_some_step" 3 3 m__law_some_step) (G_Grown_put : MethOk P w K mg base CX0 C 50 "put" 7 (ar 3 m_Grown_put)) (G__law_put : Callee P w K mg base CX0 C "_law_put" 4 3 m__law_put) (G__law_try_take : Callee P w K mg base CX0 C "_law_try_take" 4 3 m__law_try_take) (G_columns_o : Callee P w K mg base CX0 C "columns" 2 1 m_columns_o) (G__law_same : Callee P w K mg base CX0 C "_law_same" 9 2 (m__law_same 8)) (G_columns : Callee P w K mg base CX0 C "columns" 2 1 m_columns) (G_Grown___init__ : MakeOk P w K mg base CX0 C 50 "Grown" 3 (arD 4 [.int 60] m_Grown___init__)) (F : Fun K "law" "law" s_law f fd) : FnOk P w K mg base CX0 10 f fd ["_law_script"] (spD C 1 m_law) := fn_mk (k := 9) F sc_law hK rfl fun cdv A outer s H E c =>
    (xss_cons (xs_set (i := 1) c (x_call c G__law_open (xa_cons (x_var 0) xa_nil)))
    (xss_cons (xs_set (i := 2) c (x_call c G__law_some_book (xa_cons (x_var 1) (xa_cons (x_lst (xa_cons x_int (xa_cons x_int (xa_cons x_int (xa_cons x_int xa_nil))))) xa_nil))))
    (xss_cons (xs_par (i := 6) (j := 7) c (xa_cons (x_call c G__law_book (xa_cons (x_var 2) xa_nil)) (xa_cons (x_call c G__law_string (xa_cons (x_var 1) (xa_cons (x_ix c.K (x_var 2) x_int) (xa_cons x_int xa_nil)))) xa_nil)))
    (xss_cons (xs_par (i := 8) (j := 9) c (xa_cons (x_makeKO c J_Grown___init__ (xa_cons (x_var 6) (xa_cons (x_var 7) xa_nil)) x_int) (xa_cons (x_tup (xa_cons (x_call c G__law_begin (xa_cons (x_var 7) xa_nil)) (xa_cons (x_lst xa_nil) xa_nil))) xa_nil)))
    (xss_cons (xs_for c (xi_rng1 T.b_range (xa_cons (x_add c.K x_int (x_call c G__law_draw (xa_cons (x_var 1) (xa_cons x_int xa_nil)))) xa_nil)) (xg_name (i := 3) c.nd) (xss_cons (xs_set (i := 10) c (x_call c G__law_some_step (xa_cons (x_var 1) (xa_cons (x_var 2) (xa_cons (x_var 9) xa_nil)))))
    (xss_cons (xs_expr (x_meth c G_Grown_put (x_var 8) (xa_cons (x_ix c.K (x_var 10) x_int) (xa_cons (x_ix c.K (x_var 10) x_int) xa_nil))))
    (xss_cons (xs_set (i := 9) c (x_call c G__law_put (xa_cons (x_var 2) (xa_cons (x_var 9) (xa_cons (x_var 10) xa_nil)))))
    (xss_one (xs_if (t_eq c (x_call c G__law_draw (xa_cons (x_var 1) (xa_cons x_int xa_nil))) x_int) (xss_one (xs_set (i := 9) c (x_call c G__law_try_take (xa_cons (x_var 1) (xa_cons (x_var 8) (xa_cons (x_var 9) xa_nil)))))) xss_nil))))))
    (xss_cons (xs_set (i := 4) c (x_lstO xa_nil))
    (xss_cons (xs_for c (xi_enumA c.K T.b_enumerate (xa_cons (x_ix c.K (x_var 9) x_int) xa_nil)) (xg_tup c (xgs_cons (xg_name (i := 11) c.nd) (xgs_cons (xg_name (i := 12) c.nd) xgs_nil))) (xss_cons (xs_set (i := 13) c (x_if (t_lt (x_ix c.K (x_var 12) x_int) x_int) (x_str [45]) (xb_str T.b_str (xa_cons (x_ix c.K (x_var 12) x_int) xa_nil))))
    (xss_one (xs_expr (x_app c.K (x_var 4) (x_add c.K (x_add c.K (x_add c.K (x_add c.K (x_add c.K (x_add c.K (x_add c.K (x_add c.K (x_rjust (xb_str T.b_str (xa_cons (x_var 11) xa_nil)) x_int) (x_str [32])) (x_ix c.K (x_var 12) x_int)) (x_str [32])) (x_ljust (x_ix c.K (x_var 12) x_int) x_int)) (x_str [32])) (x_rjust (x_var 13) x_int)) (x_str [32])) (xb_str T.b_str (xa_cons (x_ix c.K (x_var 12) x_int) xa_nil))))))))
    (xss_cons (xs_frz 4 (xs_set (i := 5) c (x_call c G_columns_o (xa_cons (x_var 8) xa_nil))))
    (xss_cons (xs_if (t_not (t_truth c.K (x_peek (x_call c G__law_same (xa_cons (x_var 5) (xa_cons (x_var 4) xa_nil)))))) (xss_one (xs_ret x_bl)) xss_nil)
    (xss_cons (xs_expr (x_app c.K (x_var 5) (x_str [120])))
    (xss_one (xs_ret (x_call c G__law_same (xa_cons (x_lst (xa_cons (x_call c G_columns (xa_cons (x_var 8) xa_nil)) (xa_cons (x_call c G_columns (xa_cons (x_makeO c G_Grown___init__ (xa_cons (x_var 6) (xa_cons (x_var 7) xa_nil))) xa_nil)) xa_nil))) (xa_cons (x_lst (xa_cons (x_var 4) (xa_cons (x_lst xa_nil) xa_nil))) xa_nil)))))))))))))))
end
end G
namespace G
open PySem PySem.Spec PyProof.Rows L2
def tabA (A0 A50 : Addr) : Nat → Addr
  | 0 => A0
  | 50 => A50
  | _ => 0
def tabN : Nat → List Str
  | 0 => ["kinds", "comers", "own_lines"]
  | 50 => ["book", "start", "busy", "own_limit", "letters", "own_births", "past", "ahead"]
  | _ => []
theorem all_mk {l : PySem.W.OpenLaw} {w : World} {K : PySem.W.Frag} {h : Heap} {mg : Str → Option Value} {fa f1 f2 f3 f4 f5 f6 f7 f8 f9 f10 f11 f12 f13 f14 f15 f16 f17 f18 f19 f20 f21 f22 f23 f24 f25 f26 f27 f28 f29 f30 f31 f32 f33 f34 f35 f36 f37 f38 f39 f40 f41 f42 f43 f44 f45 f46 f47 f48 f49 f50 f51 f52 f53 f54 f55 f56 f57 f58 f59 f60 f61 A0 A50 : Addr} (X : K.In h) (G : h.Ns mainGlobals mg) (hfa : mg "law" = some (.ref fa))
    {od1 an1 od2 an2 od3 an3 od4 an4 od5 an5 od6 an6 od7 an7 od8 an8 od9 an9 od10 an10 od11 an11 od12 an12 od13 an13 od14 an14 od15 an15 od16 an16 od17 an17 od18 an18 od19 an19 od20 an20 od21 an21 od22 an22 od23 an23 od24 an24 od25 an25 od26 an26 od27 an27 od28 an28 od29 an29 od30 an30 od31 an31 od32 an32 od33 an33 od34 an34 od35 an35 od36 an36 od37 an37 od38 an38 od39 an39 od40 an40 od41 an41 od42 an42 od43 an43 od44 an44 od45 an45 od46 an46 od47 an47 od48 an48 od49 an49 od50 an50 od51 an51 od52 an52 od53 an53 od54 an54 od55 an55 od56 an56 od57 an57 od58 an58 od59 an59 od60 an60 od61 an61 : Option Addr} {sl1 sl2 sl3 sl4 sl5 sl6 sl7 sl8 sl9 sl10 sl11 sl12 sl13 sl14 sl15 sl16 sl17 sl18 sl19 sl20 sl21 sl22 sl23 sl24 sl25 sl26 sl27 sl28 sl29 sl30 sl31 sl32 sl33 sl34 sl35 sl36 sl37 sl38 sl39 sl40 sl41 sl42 sl43 sl44 sl45 sl46 sl47 sl48 sl49 sl50 sl51 sl52 sl53 sl54 sl55 sl56 sl57 sl58 sl59 sl60 sl61 : Array (Option Value)} {oc1 kV1 dc1 pm1 cd1 ct1 oc2 kV2 dc2 pm2 cd2 ct2 oc3 kV3 dc3 pm3 cd3 ct3 oc4 kV4 dc4 pm4 cd4 ct4 oc5 kV5 dc5 pm5 cd5 ct5 oc6 kV6 dc6 pm6 cd6 ct6 oc7 kV7 dc7 pm7 cd7 ct7 oc8 kV8 dc8 pm8 cd8 ct8 oc9 kV9 dc9 pm9 cd9 ct9 oc10 kV10 dc10 pm10 cd10 ct10 oc11 kV11 dc11 pm11 cd11 ct11 oc12 kV12 dc12 pm12 cd12 ct12 oc13 kV13 dc13 pm13 cd13 ct13 oc14 kV14 dc14 pm14 cd14 ct14 oc15 kV15 dc15 pm15 cd15 ct15 oc16 kV16 dc16 pm16 cd16 ct16 oc17 kV17 dc17 pm17 cd17 ct17 oc18 kV18 dc18 pm18 cd18 ct18 oc19 kV19 dc19 pm19 cd19 ct19 oc20 kV20 dc20 pm20 cd20 ct20 oc21 kV21 dc21 pm21 cd21 ct21 oc22 kV22 dc22 pm22 cd22 ct22 oc23 kV23 dc23 pm23 cd23 ct23 oc24 kV24 dc24 pm24 cd24 ct24 oc25 kV25 dc25 pm25 cd25 ct25 oc26 kV26 dc26 pm26 cd26 ct26 oc27 kV27 dc27 pm27 cd27 ct27 oc28 dc28 pm28 cd28 ct28 oc29 kV29 dc29 pm29 cd29 ct29 oc30 kV30 dc30 pm30 cd30 ct30 oc31 kV31 dc31 pm31 cd31 ct31 oc32 kV32 dc32 pm32 cd32 ct32 oc33 kV33 dc33 pm33 cd33 ct33 oc34 kV34 dc34 pm34 cd34 ct34 oc35 kV35 dc35 pm35 cd35 ct35 oc36 kV36 dc36 pm36 cd36 ct36 oc37 kV37 dc37 pm37 cd37 ct37 oc38 kV38 dc38 pm38 cd38 ct38 oc39 kV39 dc39 pm39 cd39 ct39 oc40 kV40 dc40 pm40 cd40 ct40 oc41 kV41 dc41 pm41 cd41 ct41 oc42 kV42 dc42 pm42 cd42 ct42 oc43 kV43 dc43 pm43 cd43 ct43 oc44 kV44 dc44 pm44 cd44 ct44 oc45 kV45 dc45 pm45 cd45 ct45 oc46 kV46 dc46 pm46 cd46 ct46 oc47 kV47 dc47 pm47 cd47 ct47 oc48 kV48 dc48 pm48 cd48 ct48 oc49 kV49 dc49 pm49 cd49 ct49 oc50 kV50 dc50 pm50 cd50 ct50 oc51 kV51 dc51 pm51 cd51 ct51 oc52 kV52 dc52 pm52 cd52 ct52 oc53 kV53 dc53 pm53 cd53 ct53 oc54 kV54 dc54 pm54 cd54 ct54 oc55 kV55 dc55 pm55 cd55 ct55 oc56 kV56 dc56 pm56 cd56 ct56 oc57 kV57 dc57 pm57 cd57 ct57 oc58 kV58 dc58 pm58 cd58 ct58 oc59 kV59 dc59 pm59 cd59 ct59 oc60 kV60 dc60 pm60 cd60 ct60 oc61 kV61 dc61 pm61 cd61 ct61 : Value}
    (x0_at : PySem.W.nsIn K mainGlobals "Book" = some (some (.ref A0)))
    (x0_pg : PySem.W.plainGet K A0 Str.empty = true)
    (x0_hd : PySem.W.hasDictIn K A0 = true)
    (x0_po : PySem.W.plainOver K A0 = true)
    (x0_sa : PySem.W.findIn K (.ref A0) "__setattr__" = some (some (.builtin "object.__setattr__")))
    (x0_na_kinds : PySem.W.findIn K (.ref A0) "kinds" = some none)
    (x0_na_comers : PySem.W.findIn K (.ref A0) "comers" = some none)
    (x0_na_own_lines : PySem.W.findIn K (.ref A0) "own_lines" = some none)
    (x0_rd : PySem.W.readsIn K A0 (.type "type") = true)
    (x0_ga : PySem.W.specialIn K (.ref A0) "__getattribute__" = some (some (.builtin "type.__getattribute__")))
    {t0_MOST : Tok} (x0_cv_MOST : PySem.W.findCls K (.ref A0) (.type "type") "MOST" = some (.val (.int 8 t0_MOST)))
    (x0_mk : PySem.W.makesIn K A0 = true)
    (x0_kp : PySem.W.keepIn K (.ref A0) = true)
    (x50_at : PySem.W.nsIn K mainGlobals "Grown" = some (some (.ref A50)))
    (x50_pg : PySem.W.plainGet K A50 Str.empty = true)
    (x50_hd : PySem.W.hasDictIn K A50 = true)
    (x50_po : PySem.W.plainOver K A50 = true)
    (x50_sa : PySem.W.findIn K (.ref A50) "__setattr__" = some (some (.builtin "object.__setattr__")))
    (x50_na_book : PySem.W.findIn K (.ref A50) "book" = some none)
    (x50_na_start : PySem.W.findIn K (.ref A50) "start" = some none)
    (x50_na_busy : PySem.W.findIn K (.ref A50) "busy" = some none)
    (x50_na_own_limit : PySem.W.findIn K (.ref A50) "own_limit" = some none)
    (x50_na_letters : PySem.W.findIn K (.ref A50) "letters" = some none)
    (x50_na_own_births : PySem.W.findIn K (.ref A50) "own_births" = some none)
    (x50_na_past : PySem.W.findIn K (.ref A50) "past" = some none)
    (x50_na_ahead : PySem.W.findIn K (.ref A50) "ahead" = some none)
    (x50_rd : PySem.W.readsIn K A50 (.type "type") = true)
    (x50_ga : PySem.W.specialIn K (.ref A50) "__getattribute__" = some (some (.builtin "type.__getattribute__")))
    {t50_MOST : Tok} (x50_cv_MOST : PySem.W.findCls K (.ref A50) (.type "type") "MOST" = some (.val (.int 99 t50_MOST)))
    (x50_mk : PySem.W.makesIn K A50 = true)
    (x50_kp : PySem.W.keepIn K (.ref A50) = true)
    (a1 : PySem.W.nsIn K mainGlobals "_law_open" = some (some (.ref f1)))
    (l1 : K.lookup f1 = some ⟨oc1, od1, .func (PySem.W.fnOf "_law_open" "_law_open" (defArgs s__law_open) (defBody s__law_open) (defScope s__law_open) .none kV1 dc1 pm1 an1 cd1 ct1), sl1⟩)
    (c1 : PySem.W.codeIn K cd1 "_law_open" = true)
    (k1 : PySem.W.keepIn K (.ref f1) = true)
    (a2 : PySem.W.nsIn K mainGlobals "_law_draw" = some (some (.ref f2)))
    (l2 : K.lookup f2 = some ⟨oc2, od2, .func (PySem.W.fnOf "_law_draw" "_law_draw" (defArgs s__law_draw) (defBody s__law_draw) (defScope s__law_draw) .none kV2 dc2 pm2 an2 cd2 ct2), sl2⟩)
    (c2 : PySem.W.codeIn K cd2 "_law_draw" = true)
    (k2 : PySem.W.keepIn K (.ref f2) = true)
    (a3 : PySem.W.nsIn K mainGlobals "_law_letters" = some (some (.ref f3)))
    (l3 : K.lookup f3 = some ⟨oc3, od3, .func (PySem.W.fnOf "_law_letters" "_law_letters" (defArgs s__law_letters) (defBody s__law_letters) (defScope s__law_letters) .none kV3 dc3 pm3 an3 cd3 ct3), sl3⟩)
    (c3 : PySem.W.codeIn K cd3 "_law_letters" = true)
    (k3 : PySem.W.keepIn K (.ref f3) = true)
    (a4 : PySem.W.nsIn K mainGlobals "_law_some_comers" = some (some (.ref f4)))
    (l4 : K.lookup f4 = some ⟨oc4, od4, .func (PySem.W.fnOf "_law_some_comers" "_law_some_comers" (defArgs s__law_some_comers) (defBody s__law_some_comers) (defScope s__law_some_comers) .none kV4 dc4 pm4 an4 cd4 ct4), sl4⟩)
    (c4 : PySem.W.codeIn K cd4 "_law_some_comers" = true)
    (k4 : PySem.W.keepIn K (.ref f4) = true)
    (a5 : PySem.W.nsIn K mainGlobals "_law_some_kinds" = some (some (.ref f5)))
    (l5 : K.lookup f5 = some ⟨oc5, od5, .func (PySem.W.fnOf "_law_some_kinds" "_law_some_kinds" (defArgs s__law_some_kinds) (defBody s__law_some_kinds) (defScope s__law_some_kinds) .none kV5 dc5 pm5 an5 cd5 ct5), sl5⟩)
    (c5 : PySem.W.codeIn K cd5 "_law_some_kinds" = true)
    (k5 : PySem.W.keepIn K (.ref f5) = true)
    (a6 : PySem.W.nsIn K mainGlobals "_law_part" = some (some (.ref f6)))
    (l6 : K.lookup f6 = some ⟨oc6, od6, .func (PySem.W.fnOf "_law_part" "_law_part" (defArgs s__law_part) (defBody s__law_part) (defScope s__law_part) .none kV6 dc6 pm6 an6 cd6 ct6), sl6⟩)
    (c6 : PySem.W.codeIn K cd6 "_law_part" = true)
    (k6 : PySem.W.keepIn K (.ref f6) = true)
    (a7 : PySem.W.nsIn K mainGlobals "_law_of" = some (some (.ref f7)))
    (l7 : K.lookup f7 = some ⟨oc7, od7, .func (PySem.W.fnOf "_law_of" "_law_of" (defArgs s__law_of) (defBody s__law_of) (defScope s__law_of) .none kV7 dc7 pm7 an7 cd7 ct7), sl7⟩)
    (c7 : PySem.W.codeIn K cd7 "_law_of" = true)
    (k7 : PySem.W.keepIn K (.ref f7) = true)
    (a8 : PySem.W.nsIn K mainGlobals "_law_string" = some (some (.ref f8)))
    (l8 : K.lookup f8 = some ⟨oc8, od8, .func (PySem.W.fnOf "_law_string" "_law_string" (defArgs s__law_string) (defBody s__law_string) (defScope s__law_string) .none kV8 dc8 pm8 an8 cd8 ct8), sl8⟩)
    (c8 : PySem.W.codeIn K cd8 "_law_string" = true)
    (k8 : PySem.W.keepIn K (.ref f8) = true)
    (a9 : PySem.W.nsIn K mainGlobals "_law_line" = some (some (.ref f9)))
    (l9 : K.lookup f9 = some ⟨oc9, od9, .func (PySem.W.fnOf "_law_line" "_law_line" (defArgs s__law_line) (defBody s__law_line) (defScope s__law_line) .none kV9 dc9 pm9 an9 cd9 ct9), sl9⟩)
    (c9 : PySem.W.codeIn K cd9 "_law_line" = true)
    (k9 : PySem.W.keepIn K (.ref f9) = true)
    (a10 : PySem.W.nsIn K mainGlobals "_law_some_book" = some (some (.ref f10)))
    (l10 : K.lookup f10 = some ⟨oc10, od10, .func (PySem.W.fnOf "_law_some_book" "_law_some_book" (defArgs s__law_some_book) (defBody s__law_some_book) (defScope s__law_some_book) .none kV10 dc10 pm10 an10 cd10 ct10), sl10⟩)
    (c10 : PySem.W.codeIn K cd10 "_law_some_book" = true)
    (k10 : PySem.W.keepIn K (.ref f10) = true)
    (a11 : PySem.W.nsIn K mainGlobals "is_rising" = some (some (.ref f11)))
    (l11 : K.lookup f11 = some ⟨oc11, od11, .func (PySem.W.fnOf "is_rising" "is_rising" (defArgs s_is_rising) (defBody s_is_rising) (defScope s_is_rising) .none kV11 dc11 pm11 an11 cd11 ct11), sl11⟩)
    (c11 : PySem.W.codeIn K cd11 "is_rising" = true)
    (k11 : PySem.W.keepIn K (.ref f11) = true)
    (a12 : PySem.W.nsIn K mainGlobals "is_kinds" = some (some (.ref f12)))
    (l12 : K.lookup f12 = some ⟨oc12, od12, .func (PySem.W.fnOf "is_kinds" "is_kinds" (defArgs s_is_kinds) (defBody s_is_kinds) (defScope s_is_kinds) .none kV12 dc12 pm12 an12 cd12 ct12), sl12⟩)
    (c12 : PySem.W.codeIn K cd12 "is_kinds" = true)
    (k12 : PySem.W.keepIn K (.ref f12) = true)
    (a13 : PySem.W.nsIn K mainGlobals "is_comers" = some (some (.ref f13)))
    (l13 : K.lookup f13 = some ⟨oc13, od13, .func (PySem.W.fnOf "is_comers" "is_comers" (defArgs s_is_comers) (defBody s_is_comers) (defScope s_is_comers) .none kV13 dc13 pm13 an13 cd13 ct13), sl13⟩)
    (c13 : PySem.W.codeIn K cd13 "is_comers" = true)
    (k13 : PySem.W.keepIn K (.ref f13) = true)
    (a14 : PySem.W.nsIn K mainGlobals "line_of" = some (some (.ref f14)))
    (l14 : K.lookup f14 = some ⟨oc14, od14, .func (PySem.W.fnOf "line_of" "line_of" (defArgs s_line_of) (defBody s_line_of) (defScope s_line_of) .none kV14 dc14 pm14 an14 cd14 ct14), sl14⟩)
    (c14 : PySem.W.codeIn K cd14 "line_of" = true)
    (k14 : PySem.W.keepIn K (.ref f14) = true)
    (a15 : PySem.W.nsIn K mainGlobals "is_part" = some (some (.ref f15)))
    (l15 : K.lookup f15 = some ⟨oc15, od15, .func (PySem.W.fnOf "is_part" "is_part" (defArgs s_is_part) (defBody s_is_part) (defScope s_is_part) .none kV15 dc15 pm15 an15 cd15 ct15), sl15⟩)
    (c15 : PySem.W.codeIn K cd15 "is_part" = true)
    (k15 : PySem.W.keepIn K (.ref f15) = true)
    (a16 : PySem.W.nsIn K mainGlobals "is_string" = some (some (.ref f16)))
    (l16 : K.lookup f16 = some ⟨oc16, od16, .func (PySem.W.fnOf "is_string" "is_string" (defArgs s_is_string) (defBody s_is_string) (defScope s_is_string) .none kV16 dc16 pm16 an16 cd16 ct16), sl16⟩)
    (c16 : PySem.W.codeIn K cd16 "is_string" = true)
    (k16 : PySem.W.keepIn K (.ref f16) = true)
    (a17 : PySem.W.nsIn K mainGlobals "is_word" = some (some (.ref f17)))
    (l17 : K.lookup f17 = some ⟨oc17, od17, .func (PySem.W.fnOf "is_word" "is_word" (defArgs s_is_word) (defBody s_is_word) (defScope s_is_word) .none kV17 dc17 pm17 an17 cd17 ct17), sl17⟩)
    (c17 : PySem.W.codeIn K cd17 "is_word" = true)
    (k17 : PySem.W.keepIn K (.ref f17) = true)
    (a18 : PySem.W.nsIn K mainGlobals "is_line" = some (some (.ref f18)))
    (l18 : K.lookup f18 = some ⟨oc18, od18, .func (PySem.W.fnOf "is_line" "is_line" (defArgs s_is_line) (defBody s_is_line) (defScope s_is_line) .none kV18 dc18 pm18 an18 cd18 ct18), sl18⟩)
    (c18 : PySem.W.codeIn K cd18 "is_line" = true)
    (k18 : PySem.W.keepIn K (.ref f18) = true)
    (a19 : PySem.W.findIn K (.ref A0) "__init__" = some (some (.ref f19)))
    (n19 : PySem.W.isFn K (.ref f19) = true)
    (l19 : K.lookup f19 = some ⟨oc19, od19, .func (PySem.W.fnOf "__init__" "Book.__init__" (defArgs s_Book___init__) (defBody s_Book___init__) (defScope s_Book___init__) .none kV19 dc19 pm19 an19 cd19 ct19), sl19⟩)
    (c19 : PySem.W.codeIn K cd19 "Book.__init__" = true)
    (k19 : PySem.W.keepIn K (.ref f19) = true)
    {p20 : Addr} {rs20 : List Value} (a20 : PySem.W.findCls K (.ref A0) (.type "type") "read" = some (.get (.builtin "staticmethod.__get__") (.ref p20) .none (.ref A0)))
    (n20 : PySem.W.recIn K p20 "staticmethod" = some (.ref f20 :: rs20))
    (l20 : K.lookup f20 = some ⟨oc20, od20, .func (PySem.W.fnOf "read" "Book.read" (defArgs s_Book_read) (defBody s_Book_read) (defScope s_Book_read) .none kV20 dc20 pm20 an20 cd20 ct20), sl20⟩)
    (c20 : PySem.W.codeIn K cd20 "Book.read" = true)
    (k20 : PySem.W.keepIn K (.ref f20) = true)
    (a21 : PySem.W.nsIn K mainGlobals "_law_line_text" = some (some (.ref f21)))
    (l21 : K.lookup f21 = some ⟨oc21, od21, .func (PySem.W.fnOf "_law_line_text" "_law_line_text" (defArgs s__law_line_text) (defBody s__law_line_text) (defScope s__law_line_text) .none kV21 dc21 pm21 an21 cd21 ct21), sl21⟩)
    (c21 : PySem.W.codeIn K cd21 "_law_line_text" = true)
    (k21 : PySem.W.keepIn K (.ref f21) = true)
    (a22 : PySem.W.nsIn K mainGlobals "_law_book_text" = some (some (.ref f22)))
    (l22 : K.lookup f22 = some ⟨oc22, od22, .func (PySem.W.fnOf "_law_book_text" "_law_book_text" (defArgs s__law_book_text) (defBody s__law_book_text) (defScope s__law_book_text) .none kV22 dc22 pm22 an22 cd22 ct22), sl22⟩)
    (c22 : PySem.W.codeIn K cd22 "_law_book_text" = true)
    (k22 : PySem.W.keepIn K (.ref f22) = true)
    (a23 : PySem.W.nsIn K mainGlobals "_law_book" = some (some (.ref f23)))
    (l23 : K.lookup f23 = some ⟨oc23, od23, .func (PySem.W.fnOf "_law_book" "_law_book" (defArgs s__law_book) (defBody s__law_book) (defScope s__law_book) .none kV23 dc23 pm23 an23 cd23 ct23), sl23⟩)
    (c23 : PySem.W.codeIn K cd23 "_law_book" = true)
    (k23 : PySem.W.keepIn K (.ref f23) = true)
    (a24 : PySem.W.nsIn K mainGlobals "_law_begin" = some (some (.ref f24)))
    (l24 : K.lookup f24 = some ⟨oc24, od24, .func (PySem.W.fnOf "_law_begin" "_law_begin" (defArgs s__law_begin) (defBody s__law_begin) (defScope s__law_begin) .none kV24 dc24 pm24 an24 cd24 ct24), sl24⟩)
    (c24 : PySem.W.codeIn K cd24 "_law_begin" = true)
    (k24 : PySem.W.keepIn K (.ref f24) = true)
    (a25 : PySem.W.nsIn K mainGlobals "is_row" = some (some (.ref f25)))
    (l25 : K.lookup f25 = some ⟨oc25, od25, .func (PySem.W.fnOf "is_row" "is_row" (defArgs s_is_row) (defBody s_is_row) (defScope s_is_row) .none kV25 dc25 pm25 an25 cd25 ct25), sl25⟩)
    (c25 : PySem.W.codeIn K cd25 "is_row" = true)
    (k25 : PySem.W.keepIn K (.ref f25) = true)
    (a26 : PySem.W.nsIn K mainGlobals "is_number" = some (some (.ref f26)))
    (l26 : K.lookup f26 = some ⟨oc26, od26, .func (PySem.W.fnOf "is_number" "is_number" (defArgs s_is_number) (defBody s_is_number) (defScope s_is_number) .none kV26 dc26 pm26 an26 cd26 ct26), sl26⟩)
    (c26 : PySem.W.codeIn K cd26 "is_number" = true)
    (k26 : PySem.W.keepIn K (.ref f26) = true)
    (a27 : PySem.W.nsIn K mainGlobals "letters_of" = some (some (.ref f27)))
    (l27 : K.lookup f27 = some ⟨oc27, od27, .func (PySem.W.fnOf "letters_of" "letters_of" (defArgs s_letters_of) (defBody s_letters_of) (defScope s_letters_of) .none kV27 dc27 pm27 an27 cd27 ct27), sl27⟩)
    (c27 : PySem.W.codeIn K cd27 "letters_of" = true)
    (k27 : PySem.W.keepIn K (.ref f27) = true)
    (a28 : PySem.W.findIn K (.ref A50) "__init__" = some (some (.ref f28)))
    (n28 : PySem.W.isFn K (.ref f28) = true)
    {tu28 : Addr} {tc28 : Value} {td28 : Option Addr} {tn28 : Nat} {ts28 : Array (Option Value)} {dd28_0 : Tok} 
    {kd28 : Addr} {kt28_0 : Tok} 
    (l28 : K.lookup f28 = some ⟨oc28, od28, .func (PySem.W.fnOf "__init__" "Grown.__init__" (defArgs s_Grown___init__) (defBody s_Grown___init__) (defScope s_Grown___init__) (.ref tu28) (.ref kd28) dc28 pm28 an28 cd28 ct28), sl28⟩)
    (kk28_0 : PySem.W.nsIn K kd28 "limit" = some (some (.int 60 kt28_0)))
    (lt28 : K.lookup tu28 = some ⟨tc28, td28, .seq #[.str "" dd28_0] tn28, ts28⟩)
    (c28 : PySem.W.codeIn K cd28 "Grown.__init__" = true)
    (k28 : PySem.W.keepIn K (.ref f28) = true)
    (a29 : PySem.W.nsIn K mainGlobals "_law_some_step" = some (some (.ref f29)))
    (l29 : K.lookup f29 = some ⟨oc29, od29, .func (PySem.W.fnOf "_law_some_step" "_law_some_step" (defArgs s__law_some_step) (defBody s__law_some_step) (defScope s__law_some_step) .none kV29 dc29 pm29 an29 cd29 ct29), sl29⟩)
    (c29 : PySem.W.codeIn K cd29 "_law_some_step" = true)
    (k29 : PySem.W.keepIn K (.ref f29) = true)
    (a30 : PySem.W.nsIn K mainGlobals "is_one" = some (some (.ref f30)))
    (l30 : K.lookup f30 = some ⟨oc30, od30, .func (PySem.W.fnOf "is_one" "is_one" (defArgs s_is_one) (defBody s_is_one) (defScope s_is_one) .none kV30 dc30 pm30 an30 cd30 ct30), sl30⟩)
    (c30 : PySem.W.codeIn K cd30 "is_one" = true)
    (k30 : PySem.W.keepIn K (.ref f30) = true)
    (a31 : PySem.W.nsIn K mainGlobals "is_gap" = some (some (.ref f31)))
    (l31 : K.lookup f31 = some ⟨oc31, od31, .func (PySem.W.fnOf "is_gap" "is_gap" (defArgs s_is_gap) (defBody s_is_gap) (defScope s_is_gap) .none kV31 dc31 pm31 an31 cd31 ct31), sl31⟩)
    (c31 : PySem.W.codeIn K cd31 "is_gap" = true)
    (k31 : PySem.W.keepIn K (.ref f31) = true)
    (a32 : PySem.W.nsIn K mainGlobals "takes" = some (some (.ref f32)))
    (l32 : K.lookup f32 = some ⟨oc32, od32, .func (PySem.W.fnOf "takes" "takes" (defArgs s_takes) (defBody s_takes) (defScope s_takes) .none kV32 dc32 pm32 an32 cd32 ct32), sl32⟩)
    (c32 : PySem.W.codeIn K cd32 "takes" = true)
    (k32 : PySem.W.keepIn K (.ref f32) = true)
    (a33 : PySem.W.findIn K (.ref A0) "line_at" = some (some (.ref f33)))
    (n33 : PySem.W.isFn K (.ref f33) = true)
    (l33 : K.lookup f33 = some ⟨oc33, od33, .func (PySem.W.fnOf "line_at" "Book.line_at" (defArgs s_Book_line_at) (defBody s_Book_line_at) (defScope s_Book_line_at) .none kV33 dc33 pm33 an33 cd33 ct33), sl33⟩)
    (c33 : PySem.W.codeIn K cd33 "Book.line_at" = true)
    (k33 : PySem.W.keepIn K (.ref f33) = true)
    (a34 : PySem.W.findIn K (.ref A0) "word" = some (some (.ref f34)))
    (n34 : PySem.W.isFn K (.ref f34) = true)
    (l34 : K.lookup f34 = some ⟨oc34, od34, .func (PySem.W.fnOf "word" "Book.word" (defArgs s_Book_word) (defBody s_Book_word) (defScope s_Book_word) .none kV34 dc34 pm34 an34 cd34 ct34), sl34⟩)
    (c34 : PySem.W.codeIn K cd34 "Book.word" = true)
    (k34 : PySem.W.keepIn K (.ref f34) = true)
    (a35 : PySem.W.nsIn K mainGlobals "gap_at" = some (some (.ref f35)))
    (l35 : K.lookup f35 = some ⟨oc35, od35, .func (PySem.W.fnOf "gap_at" "gap_at" (defArgs s_gap_at) (defBody s_gap_at) (defScope s_gap_at) .none kV35 dc35 pm35 an35 cd35 ct35), sl35⟩)
    (c35 : PySem.W.codeIn K cd35 "gap_at" = true)
    (k35 : PySem.W.keepIn K (.ref f35) = true)
    (a36 : PySem.W.nsIn K mainGlobals "spelled_letters" = some (some (.ref f36)))
    (l36 : K.lookup f36 = some ⟨oc36, od36, .func (PySem.W.fnOf "spelled_letters" "spelled_letters" (defArgs s_spelled_letters) (defBody s_spelled_letters) (defScope s_spelled_letters) .none kV36 dc36 pm36 an36 cd36 ct36), sl36⟩)
    (c36 : PySem.W.codeIn K cd36 "spelled_letters" = true)
    (k36 : PySem.W.keepIn K (.ref f36) = true)
    (a37 : PySem.W.nsIn K mainGlobals "age_of" = some (some (.ref f37)))
    (l37 : K.lookup f37 = some ⟨oc37, od37, .func (PySem.W.fnOf "age_of" "age_of" (defArgs s_age_of) (defBody s_age_of) (defScope s_age_of) .none kV37 dc37 pm37 an37 cd37 ct37), sl37⟩)
    (c37 : PySem.W.codeIn K cd37 "age_of" = true)
    (k37 : PySem.W.keepIn K (.ref f37) = true)
    (a38 : PySem.W.nsIn K mainGlobals "birth_home" = some (some (.ref f38)))
    (l38 : K.lookup f38 = some ⟨oc38, od38, .func (PySem.W.fnOf "birth_home" "birth_home" (defArgs s_birth_home) (defBody s_birth_home) (defScope s_birth_home) .none kV38 dc38 pm38 an38 cd38 ct38), sl38⟩)
    (c38 : PySem.W.codeIn K cd38 "birth_home" = true)
    (k38 : PySem.W.keepIn K (.ref f38) = true)
    (a39 : PySem.W.nsIn K mainGlobals "with_birth" = some (some (.ref f39)))
    (l39 : K.lookup f39 = some ⟨oc39, od39, .func (PySem.W.fnOf "with_birth" "with_birth" (defArgs s_with_birth) (defBody s_with_birth) (defScope s_with_birth) .none kV39 dc39 pm39 an39 cd39 ct39), sl39⟩)
    (c39 : PySem.W.codeIn K cd39 "with_birth" = true)
    (k39 : PySem.W.keepIn K (.ref f39) = true)
    (a40 : PySem.W.findIn K (.ref A50) "put_in" = some (some (.ref f40)))
    (n40 : PySem.W.isFn K (.ref f40) = true)
    (l40 : K.lookup f40 = some ⟨oc40, od40, .func (PySem.W.fnOf "put_in" "Grown.put_in" (defArgs s_Grown_put_in) (defBody s_Grown_put_in) (defScope s_Grown_put_in) .none kV40 dc40 pm40 an40 cd40 ct40), sl40⟩)
    (c40 : PySem.W.codeIn K cd40 "Grown.put_in" = true)
    (k40 : PySem.W.keepIn K (.ref f40) = true)
    (a41 : PySem.W.findIn K (.ref A50) "turn_to" = some (some (.ref f41)))
    (n41 : PySem.W.isFn K (.ref f41) = true)
    (l41 : K.lookup f41 = some ⟨oc41, od41, .func (PySem.W.fnOf "turn_to" "Grown.turn_to" (defArgs s_Grown_turn_to) (defBody s_Grown_turn_to) (defScope s_Grown_turn_to) .none kV41 dc41 pm41 an41 cd41 ct41), sl41⟩)
    (c41 : PySem.W.codeIn K cd41 "Grown.turn_to" = true)
    (k41 : PySem.W.keepIn K (.ref f41) = true)
    (a42 : PySem.W.findIn K (.ref A50) "put_all" = some (some (.ref f42)))
    (n42 : PySem.W.isFn K (.ref f42) = true)
    (l42 : K.lookup f42 = some ⟨oc42, od42, .func (PySem.W.fnOf "put_all" "Grown.put_all" (defArgs s_Grown_put_all) (defBody s_Grown_put_all) (defScope s_Grown_put_all) .none kV42 dc42 pm42 an42 cd42 ct42), sl42⟩)
    (c42 : PySem.W.codeIn K cd42 "Grown.put_all" = true)
    (k42 : PySem.W.keepIn K (.ref f42) = true)
    (a43 : PySem.W.findIn K (.ref A50) "put" = some (some (.ref f43)))
    (n43 : PySem.W.isFn K (.ref f43) = true)
    (l43 : K.lookup f43 = some ⟨oc43, od43, .func (PySem.W.fnOf "put" "Grown.put" (defArgs s_Grown_put) (defBody s_Grown_put) (defScope s_Grown_put) .none kV43 dc43 pm43 an43 cd43 ct43), sl43⟩)
    (c43 : PySem.W.codeIn K cd43 "Grown.put" = true)
    (k43 : PySem.W.keepIn K (.ref f43) = true)
    (a44 : PySem.W.nsIn K mainGlobals "_law_fits" = some (some (.ref f44)))
    (l44 : K.lookup f44 = some ⟨oc44, od44, .func (PySem.W.fnOf "_law_fits" "_law_fits" (defArgs s__law_fits) (defBody s__law_fits) (defScope s__law_fits) .none kV44 dc44 pm44 an44 cd44 ct44), sl44⟩)
    (c44 : PySem.W.codeIn K cd44 "_law_fits" = true)
    (k44 : PySem.W.keepIn K (.ref f44) = true)
    (a45 : PySem.W.nsIn K mainGlobals "_law_line_at" = some (some (.ref f45)))
    (l45 : K.lookup f45 = some ⟨oc45, od45, .func (PySem.W.fnOf "_law_line_at" "_law_line_at" (defArgs s__law_line_at) (defBody s__law_line_at) (defScope s__law_line_at) .none kV45 dc45 pm45 an45 cd45 ct45), sl45⟩)
    (c45 : PySem.W.codeIn K cd45 "_law_line_at" = true)
    (k45 : PySem.W.keepIn K (.ref f45) = true)
    (a46 : PySem.W.nsIn K mainGlobals "_law_word" = some (some (.ref f46)))
    (l46 : K.lookup f46 = some ⟨oc46, od46, .func (PySem.W.fnOf "_law_word" "_law_word" (defArgs s__law_word) (defBody s__law_word) (defScope s__law_word) .none kV46 dc46 pm46 an46 cd46 ct46), sl46⟩)
    (c46 : PySem.W.codeIn K cd46 "_law_word" = true)
    (k46 : PySem.W.keepIn K (.ref f46) = true)
    (a47 : PySem.W.nsIn K mainGlobals "_law_parts" = some (some (.ref f47)))
    (l47 : K.lookup f47 = some ⟨oc47, od47, .func (PySem.W.fnOf "_law_parts" "_law_parts" (defArgs s__law_parts) (defBody s__law_parts) (defScope s__law_parts) .none kV47 dc47 pm47 an47 cd47 ct47), sl47⟩)
    (c47 : PySem.W.codeIn K cd47 "_law_parts" = true)
    (k47 : PySem.W.keepIn K (.ref f47) = true)
    (a48 : PySem.W.nsIn K mainGlobals "_law_row_gaps" = some (some (.ref f48)))
    (l48 : K.lookup f48 = some ⟨oc48, od48, .func (PySem.W.fnOf "_law_row_gaps" "_law_row_gaps" (defArgs s__law_row_gaps) (defBody s__law_row_gaps) (defScope s__law_row_gaps) .none kV48 dc48 pm48 an48 cd48 ct48), sl48⟩)
    (c48 : PySem.W.codeIn K cd48 "_law_row_gaps" = true)
    (k48 : PySem.W.keepIn K (.ref f48) = true)
    (a49 : PySem.W.nsIn K mainGlobals "_law_home" = some (some (.ref f49)))
    (l49 : K.lookup f49 = some ⟨oc49, od49, .func (PySem.W.fnOf "_law_home" "_law_home" (defArgs s__law_home) (defBody s__law_home) (defScope s__law_home) .none kV49 dc49 pm49 an49 cd49 ct49), sl49⟩)
    (c49 : PySem.W.codeIn K cd49 "_law_home" = true)
    (k49 : PySem.W.keepIn K (.ref f49) = true)
    (a50 : PySem.W.nsIn K mainGlobals "_law_put" = some (some (.ref f50)))
    (l50 : K.lookup f50 = some ⟨oc50, od50, .func (PySem.W.fnOf "_law_put" "_law_put" (defArgs s__law_put) (defBody s__law_put) (defScope s__law_put) .none kV50 dc50 pm50 an50 cd50 ct50), sl50⟩)
    (c50 : PySem.W.codeIn K cd50 "_law_put" = true)
    (k50 : PySem.W.keepIn K (.ref f50) = true)
    (a51 : PySem.W.nsIn K mainGlobals "_law_take_due" = some (some (.ref f51)))
    (l51 : K.lookup f51 = some ⟨oc51, od51, .func (PySem.W.fnOf "_law_take_due" "_law_take_due" (defArgs s__law_take_due) (defBody s__law_take_due) (defScope s__law_take_due) .none kV51 dc51 pm51 an51 cd51 ct51), sl51⟩)
    (c51 : PySem.W.codeIn K cd51 "_law_take_due" = true)
    (k51 : PySem.W.keepIn K (.ref f51) = true)
    (a52 : PySem.W.nsIn K mainGlobals "lowered" = some (some (.ref f52)))
    (l52 : K.lookup f52 = some ⟨oc52, od52, .func (PySem.W.fnOf "lowered" "lowered" (defArgs s_lowered) (defBody s_lowered) (defScope s_lowered) .none kV52 dc52 pm52 an52 cd52 ct52), sl52⟩)
    (c52 : PySem.W.codeIn K cd52 "lowered" = true)
    (k52 : PySem.W.keepIn K (.ref f52) = true)
    (a53 : PySem.W.nsIn K mainGlobals "without_birth" = some (some (.ref f53)))
    (l53 : K.lookup f53 = some ⟨oc53, od53, .func (PySem.W.fnOf "without_birth" "without_birth" (defArgs s_without_birth) (defBody s_without_birth) (defScope s_without_birth) .none kV53 dc53 pm53 an53 cd53 ct53), sl53⟩)
    (c53 : PySem.W.codeIn K cd53 "without_birth" = true)
    (k53 : PySem.W.keepIn K (.ref f53) = true)
    (a54 : PySem.W.findIn K (.ref A50) "take" = some (some (.ref f54)))
    (n54 : PySem.W.isFn K (.ref f54) = true)
    (l54 : K.lookup f54 = some ⟨oc54, od54, .func (PySem.W.fnOf "take" "Grown.take" (defArgs s_Grown_take) (defBody s_Grown_take) (defScope s_Grown_take) .none kV54 dc54 pm54 an54 cd54 ct54), sl54⟩)
    (c54 : PySem.W.codeIn K cd54 "Grown.take" = true)
    (k54 : PySem.W.keepIn K (.ref f54) = true)
    (a55 : PySem.W.nsIn K mainGlobals "_law_less" = some (some (.ref f55)))
    (l55 : K.lookup f55 = some ⟨oc55, od55, .func (PySem.W.fnOf "_law_less" "_law_less" (defArgs s__law_less) (defBody s__law_less) (defScope s__law_less) .none kV55 dc55 pm55 an55 cd55 ct55), sl55⟩)
    (c55 : PySem.W.codeIn K cd55 "_law_less" = true)
    (k55 : PySem.W.keepIn K (.ref f55) = true)
    (a56 : PySem.W.nsIn K mainGlobals "_law_taken" = some (some (.ref f56)))
    (l56 : K.lookup f56 = some ⟨oc56, od56, .func (PySem.W.fnOf "_law_taken" "_law_taken" (defArgs s__law_taken) (defBody s__law_taken) (defScope s__law_taken) .none kV56 dc56 pm56 an56 cd56 ct56), sl56⟩)
    (c56 : PySem.W.codeIn K cd56 "_law_taken" = true)
    (k56 : PySem.W.keepIn K (.ref f56) = true)
    (a57 : PySem.W.nsIn K mainGlobals "_law_try_take" = some (some (.ref f57)))
    (l57 : K.lookup f57 = some ⟨oc57, od57, .func (PySem.W.fnOf "_law_try_take" "_law_try_take" (defArgs s__law_try_take) (defBody s__law_try_take) (defScope s__law_try_take) .none kV57 dc57 pm57 an57 cd57 ct57), sl57⟩)
    (c57 : PySem.W.codeIn K cd57 "_law_try_take" = true)
    (k57 : PySem.W.keepIn K (.ref f57) = true)
    (a58 : PySem.W.findIn K (.ref A50) "births" = some (some (.ref f58)))
    (n58 : PySem.W.isFn K (.ref f58) = true)
    (l58 : K.lookup f58 = some ⟨oc58, od58, .func (PySem.W.fnOf "births" "Grown.births" (defArgs s_Grown_births) (defBody s_Grown_births) (defScope s_Grown_births) .none kV58 dc58 pm58 an58 cd58 ct58), sl58⟩)
    (c58 : PySem.W.codeIn K cd58 "Grown.births" = true)
    (k58 : PySem.W.keepIn K (.ref f58) = true)
    (a59 : PySem.W.nsIn K mainGlobals "_law_same" = some (some (.ref f59)))
    (l59 : K.lookup f59 = some ⟨oc59, od59, .func (PySem.W.fnOf "_law_same" "_law_same" (defArgs s__law_same) (defBody s__law_same) (defScope s__law_same) .none kV59 dc59 pm59 an59 cd59 ct59), sl59⟩)
    (c59 : PySem.W.codeIn K cd59 "_law_same" = true)
    (k59 : PySem.W.keepIn K (.ref f59) = true)
    (a60 : PySem.W.nsIn K mainGlobals "columns" = some (some (.ref f60)))
    (l60 : K.lookup f60 = some ⟨oc60, od60, .func (PySem.W.fnOf "columns" "columns" (defArgs s_columns) (defBody s_columns) (defScope s_columns) .none kV60 dc60 pm60 an60 cd60 ct60), sl60⟩)
    (c60 : PySem.W.codeIn K cd60 "columns" = true)
    (k60 : PySem.W.keepIn K (.ref f60) = true)
    (a61 : PySem.W.nsIn K mainGlobals "law" = some (some (.ref f61)))
    (l61 : K.lookup f61 = some ⟨oc61, od61, .func (PySem.W.fnOf "law" "law" (defArgs s_law) (defBody s_law) (defScope s_law) .none kV61 dc61 pm61 an61 cd61 ct61), sl61⟩)
    (c61 : PySem.W.codeIn K cd61 "law" = true)
    (k61 : PySem.W.keepIn K (.ref f61) = true)
    (z_int : PySem.W.nsIn K mainGlobals "int" = some none)
    (z_list : PySem.W.nsIn K mainGlobals "list" = some none)
    (z_len : PySem.W.nsIn K mainGlobals "len" = some none)
    (z_abs : PySem.W.nsIn K mainGlobals "abs" = some none)
    (z_range : PySem.W.nsIn K mainGlobals "range" = some none)
    (z_isinstance : PySem.W.nsIn K mainGlobals "isinstance" = some none)
    (z_str : PySem.W.nsIn K mainGlobals "str" = some none)
    (z_all : PySem.W.nsIn K mainGlobals "all" = some none)
    (z_sorted : PySem.W.nsIn K mainGlobals "sorted" = some none)
    (z_set : PySem.W.nsIn K mainGlobals "set" = some none)
    (z_tuple : PySem.W.nsIn K mainGlobals "tuple" = some none)
    (z_enumerate : PySem.W.nsIn K mainGlobals "enumerate" = some none)
    (z_bool : PySem.W.nsIn K mainGlobals "bool" = some none)
    (z_max : PySem.W.nsIn K mainGlobals "max" = some none)
    (z_zip : PySem.W.nsIn K mainGlobals "zip" = some none)
    {t_LOWER : Tok} (q_LOWER : PySem.W.nsIn K mainGlobals "LOWER" = some (some (.str "abcdefghijklmnopqrstuvwxyz" t_LOWER)))
    {t_UPPER : Tok} (q_UPPER : PySem.W.nsIn K mainGlobals "UPPER" = some (some (.str "ABCDEFGHIJKLMNOPQRSTUVWXYZ" t_UPPER)))
    {t_MOST_WORD : Tok} (q_MOST_WORD : PySem.W.nsIn K mainGlobals "MOST_WORD" = some (some (.int 3 t_MOST_WORD)))
    {t_MOST_ROW : Tok} (q_MOST_ROW : PySem.W.nsIn K mainGlobals "MOST_ROW" = some (some (.int 16 t_MOST_ROW)))
    : ∃ fd : FuncData, (∀ (s : Shared) (v : Value), BindsTo s fd ⟨[v], []⟩ [("_law_script", v)]) ∧ ∀ base : Heap, K.In base → base.Ns mainGlobals mg → FnOk l.prog w K mg base CX0 10 fa fd ["_law_script"] (spLaw K) := by
  have e := hfa.symm.trans (PySem.W.mg_of X G a61)
  cases e
  have x0_cl : Cls K A0 := ⟨x0_pg, x0_hd, x0_po, x0_sa⟩
  have x50_cl : Cls K A50 := ⟨x50_pg, x50_hd, x50_po, x50_sa⟩
  have T : Txt K mg (cf0 K (tabA A0 A50) tabN) := {
    b_int := PySem.W.mg_none_of X G z_int
    b_list := PySem.W.mg_none_of X G z_list
    b_len := PySem.W.mg_none_of X G z_len
    b_abs := PySem.W.mg_none_of X G z_abs
    b_range := PySem.W.mg_none_of X G z_range
    b_isinstance := PySem.W.mg_none_of X G z_isinstance
    b_str := PySem.W.mg_none_of X G z_str
    b_all := PySem.W.mg_none_of X G z_all
    b_sorted := PySem.W.mg_none_of X G z_sorted
    b_set := PySem.W.mg_none_of X G z_set
    b_tuple := PySem.W.mg_none_of X G z_tuple
    b_enumerate := PySem.W.mg_none_of X G z_enumerate
    b_bool := PySem.W.mg_none_of X G z_bool
    b_max := PySem.W.mg_none_of X G z_max
    b_zip := PySem.W.mg_none_of X G z_zip
    g_LOWER := ⟨_, PySem.W.mg_of X G q_LOWER⟩
    g_UPPER := ⟨_, PySem.W.mg_of X G q_UPPER⟩
    g_MOST_WORD := ⟨_, PySem.W.mg_of X G q_MOST_WORD⟩
    g_MOST_ROW := ⟨_, PySem.W.mg_of X G q_MOST_ROW⟩
    k_Book := PySem.W.mg_of X G x0_at
    n_Book := rfl
    f_Book_kinds := ⟨x0_cl, x0_na_kinds, show ixOf "kinds" (tabN 0) = some 0 by decide +kernel⟩
    f_Book_comers := ⟨x0_cl, x0_na_comers, show ixOf "comers" (tabN 0) = some 1 by decide +kernel⟩
    f_Book_own_lines := ⟨x0_cl, x0_na_own_lines, show ixOf "own_lines" (tabN 0) = some 2 by decide +kernel⟩
    v_Book_MOST := ⟨_, _, ⟨x0_rd, x0_ga⟩, ⟨x0_cv_MOST, ⟨_, rfl⟩⟩⟩
    k_Grown := PySem.W.mg_of X G x50_at
    n_Grown := rfl
    f_Grown_book := ⟨x50_cl, x50_na_book, show ixOf "book" (tabN 50) = some 0 by decide +kernel⟩
    f_Grown_start := ⟨x50_cl, x50_na_start, show ixOf "start" (tabN 50) = some 1 by decide +kernel⟩
    f_Grown_busy := ⟨x50_cl, x50_na_busy, show ixOf "busy" (tabN 50) = some 2 by decide +kernel⟩
    f_Grown_own_limit := ⟨x50_cl, x50_na_own_limit, show ixOf "own_limit" (tabN 50) = some 3 by decide +kernel⟩
    f_Grown_letters := ⟨x50_cl, x50_na_letters, show ixOf "letters" (tabN 50) = some 4 by decide +kernel⟩
    f_Grown_own_births := ⟨x50_cl, x50_na_own_births, show ixOf "own_births" (tabN 50) = some 5 by decide +kernel⟩
    f_Grown_past := ⟨x50_cl, x50_na_past, show ixOf "past" (tabN 50) = some 6 by decide +kernel⟩
    f_Grown_ahead := ⟨x50_cl, x50_na_ahead, show ixOf "ahead" (tabN 50) = some 7 by decide +kernel⟩
    v_Grown_MOST := ⟨_, _, ⟨x50_rd, x50_ga⟩, ⟨x50_cv_MOST, ⟨_, rfl⟩⟩⟩
    hn := fun c => by
      show (tabN c).length < 1000
      unfold tabN
      split <;> decide }
  have F1 := fun_mk (st := s__law_open) l1 c1 k1
  have F2 := fun_mk (st := s__law_draw) l2 c2 k2
  have F3 := fun_mk (st := s__law_letters) l3 c3 k3
  have F4 := fun_mk (st := s__law_some_comers) l4 c4 k4
  have F5 := fun_mk (st := s__law_some_kinds) l5 c5 k5
  have F6 := fun_mk (st := s__law_part) l6 c6 k6
  have F7 := fun_mk (st := s__law_of) l7 c7 k7
  have F8 := fun_mk (st := s__law_string) l8 c8 k8
  have F9 := fun_mk (st := s__law_line) l9 c9 k9
  have F10 := fun_mk (st := s__law_some_book) l10 c10 k10
  have F11 := fun_mk (st := s_is_rising) l11 c11 k11
  have F12 := fun_mk (st := s_is_kinds) l12 c12 k12
  have F13 := fun_mk (st := s_is_comers) l13 c13 k13
  have F14 := fun_mk (st := s_line_of) l14 c14 k14
  have F15 := fun_mk (st := s_is_part) l15 c15 k15
  have F16 := fun_mk (st := s_is_string) l16 c16 k16
  have F17 := fun_mk (st := s_is_word) l17 c17 k17
  have F18 := fun_mk (st := s_is_line) l18 c18 k18
  have F20 := fun_mk (st := s_Book_read) l20 c20 k20
  have F21 := fun_mk (st := s__law_line_text) l21 c21 k21
  have F22 := fun_mk (st := s__law_book_text) l22 c22 k22
  have F23 := fun_mk (st := s__law_book) l23 c23 k23
  have F24 := fun_mk (st := s__law_begin) l24 c24 k24
  have F25 := fun_mk (st := s_is_row) l25 c25 k25
  have F26 := fun_mk (st := s_is_number) l26 c26 k26
  have F27 := fun_mk (st := s_letters_of) l27 c27 k27
  have F28 : FunD K "__init__" "Grown.__init__" (defArgs s_Grown___init__) (defBody s_Grown___init__) (defScope s_Grown___init__) ([.str ""] : List V) ([("limit", .int 60)] : List (Str × V)) f28 _ := ⟨⟨_, _, _, _, _, _, _, _, _, _, rfl, l28, c28, .inr ⟨by simp, _, _, [.str "" dd28_0], _, rfl, lt28, rfl, (.cons ⟨_, rfl⟩ .nil)⟩, .inr ⟨_, rfl, fun q hq => by
    rw [List.mem_singleton.mp hq]
    exact ⟨_, kk28_0, ⟨_, rfl⟩⟩⟩⟩, k28⟩
  have F29 := fun_mk (st := s__law_some_step) l29 c29 k29
  have F30 := fun_mk (st := s_is_one) l30 c30 k30
  have F31 := fun_mk (st := s_is_gap) l31 c31 k31
  have F32 := fun_mk (st := s_takes) l32 c32 k32
  have F33 := fun_mk (st := s_Book_line_at) l33 c33 k33
  have F34 := fun_mk (st := s_Book_word) l34 c34 k34
  have F35 := fun_mk (st := s_gap_at) l35 c35 k35
  have F36 := fun_mk (st := s_spelled_letters) l36 c36 k36
  have F37 := fun_mk (st := s_age_of) l37 c37 k37
  have F38 := fun_mk (st := s_birth_home) l38 c38 k38
  have F39 := fun_mk (st := s_with_birth) l39 c39 k39
  have F40 := fun_mk (st := s_Grown_put_in) l40 c40 k40
  have F41 := fun_mk (st := s_Grown_turn_to) l41 c41 k41
  have F43 := fun_mk (st := s_Grown_put) l43 c43 k43
  have F44 := fun_mk (st := s__law_fits) l44 c44 k44
  have F45 := fun_mk (st := s__law_line_at) l45 c45 k45
  have F46 := fun_mk (st := s__law_word) l46 c46 k46
  have F47 := fun_mk (st := s__law_parts) l47 c47 k47
  have F48 := fun_mk (st := s__law_row_gaps) l48 c48 k48
  have F49 := fun_mk (st := s__law_home) l49 c49 k49
  have F50 := fun_mk (st := s__law_put) l50 c50 k50
  have F51 := fun_mk (st := s__law_take_due) l51 c51 k51
  have F52 := fun_mk (st := s_lowered) l52 c52 k52
  have F53 := fun_mk (st := s_without_birth) l53 c53 k53
  have F54 := fun_mk (st := s_Grown_take) l54 c54 k54
  have F55 := fun_mk (st := s__law_less) l55 c55 k55
  have F56 := fun_mk (st := s__law_taken) l56 c56 k56
  have F57 := fun_mk (st := s__law_try_take) l57 c57 k57
  have F58 := fun_mk (st := s_Grown_births) l58 c58 k58
  have F59 := fun_mk (st := s__law_same) l59 c59 k59
  have F60 := fun_mk (st := s_columns) l60 c60 k60
  have F61 := fun_mk (st := s_law) l61 c61 k61
  refine ⟨PySem.W.fnOf "law" "law" (defArgs s_law) (defBody s_law) (defScope s_law) .none kV61 dc61 pm61 an61 cd61 ct61, fun s v => .of_eq rfl, fun base _ _ => ?_⟩
  have hK : (cf0 K (tabA A0 A50) tabN).K = K := rfl
  have b1 := F1.binds (ps := ["_law_script"]) fun _ _ _ _ _ _ us hl => match us, hl with | [_], _ => rfl
  have b2 := F2.binds (ps := ["_law_bag", "_law_many"]) fun _ _ _ _ _ _ us hl => match us, hl with | [_, _], _ => rfl
  have b3 := F3.binds (ps := ["_law_bag", "_law_letters_here", "_law_many"]) fun _ _ _ _ _ _ us hl => match us, hl with | [_, _, _], _ => rfl
  have b4 := F4.binds (ps := ["_law_bag", "_law_most"]) fun _ _ _ _ _ _ us hl => match us, hl with | [_, _], _ => rfl
  have b5 := F5.binds (ps := ["_law_bag", "_law_most"]) fun _ _ _ _ _ _ us hl => match us, hl with | [_, _], _ => rfl
  have b6 := F6.binds (ps := ["_law_bag", "_law_letters_here"]) fun _ _ _ _ _ _ us hl => match us, hl with | [_, _], _ => rfl
  have b7 := F7.binds (ps := ["_law_bag", "_law_things"]) fun _ _ _ _ _ _ us hl => match us, hl with | [_, _], _ => rfl
  have b8 := F8.binds (ps := ["_law_bag", "_law_kinds", "_law_most"]) fun _ _ _ _ _ _ us hl => match us, hl with | [_, _, _], _ => rfl
  have b9 := F9.binds (ps := ["_law_bag", "_law_kinds", "_law_comers", "_law_most"]) fun _ _ _ _ _ _ us hl => match us, hl with | [_, _, _, _], _ => rfl
  have b10 := F10.binds (ps := ["_law_bag", "_law_sizes"]) fun _ _ _ _ _ _ us hl => match us, hl with | [_, _], _ => rfl
  have b11 := F11.binds (ps := ["value", "letters", "most"]) fun _ _ _ _ _ _ us hl => match us, hl with | [_, _, _], _ => rfl
  have b12 := F12.binds (ps := ["value"]) fun _ _ _ _ _ _ us hl => match us, hl with | [_], _ => rfl
  have b13 := F13.binds (ps := ["value"]) fun _ _ _ _ _ _ us hl => match us, hl with | [_], _ => rfl
  have b14 := F14.binds (ps := ["row"]) fun _ _ _ _ _ _ us hl => match us, hl with | [_], _ => rfl
  have b15 := F15.binds (ps := ["value", "letters"]) fun _ _ _ _ _ _ us hl => match us, hl with | [_, _], _ => rfl
  have b16 := F16.binds (ps := ["value", "kinds"]) fun _ _ _ _ _ _ us hl => match us, hl with | [_, _], _ => rfl
  have b17 := F17.binds (ps := ["value", "kinds"]) fun _ _ _ _ _ _ us hl => match us, hl with | [_, _], _ => rfl
  have b18 := F18.binds (ps := ["value", "kinds", "comers"]) fun _ _ _ _ _ _ us hl => match us, hl with | [_, _, _], _ => rfl
  have b20 := F20.binds (ps := ["text"]) fun _ _ _ _ _ _ us hl => match us, hl with | [_], _ => rfl
  have b21 := F21.binds (ps := ["_law_row"]) fun _ _ _ _ _ _ us hl => match us, hl with | [_], _ => rfl
  have b22 := F22.binds (ps := ["_law_spec"]) fun _ _ _ _ _ _ us hl => match us, hl with | [_], _ => rfl
  have b23 := F23.binds (ps := ["_law_spec"]) fun _ _ _ _ _ _ us hl => match us, hl with | [_], _ => rfl
  have b24 := F24.binds (ps := ["_law_start"]) fun _ _ _ _ _ _ us hl => match us, hl with | [_], _ => rfl
  have b25 := F25.binds (ps := ["value", "kinds"]) fun _ _ _ _ _ _ us hl => match us, hl with | [_, _], _ => rfl
  have b26 := F26.binds (ps := ["value", "least", "most"]) fun _ _ _ _ _ _ us hl => match us, hl with | [_, _, _], _ => rfl
  have b27 := F27.binds (ps := ["start"]) fun _ _ _ _ _ _ us hl => match us, hl with | [_], _ => rfl
  obtain ⟨ik28, kb28⟩ := F28.kbindsD (ps := ["self", "book", "start", "limit"]) 3 ["limit"] (fun us _ ws => us ++ ws) (by simp) (fun r1 _ r3 => r1.append r3) fun T kV doc pm an cdv ct us its ws h1 h2 h3 => match us, its, ws, h1, h2, h3 with | [_, _, _], [_], [_], _, _, _ => ⟨_, rfl, rfl⟩
  obtain ⟨ds28, rd28, b28⟩ := F28.binds (ps := ["self", "book", "start", "limit"]) 3 1 (by simp) rfl (fun _ _ _ _ _ _ _ us its ks hl hm hn => match us, its, ks, hl, hm, hn with | [_, _, _], [_], [_], _, _, _ => ⟨_, rfl, _, _, _, _, _, _, rfl, rfl, rfl⟩) (by simp)
  have b29 := F29.binds (ps := ["_law_bag", "_law_spec", "_law_state"]) fun _ _ _ _ _ _ us hl => match us, hl with | [_, _, _], _ => rfl
  have b30 := F30.binds (ps := ["value", "letters"]) fun _ _ _ _ _ _ us hl => match us, hl with | [_, _], _ => rfl
  have b31 := F31.binds (ps := ["value", "kinds"]) fun _ _ _ _ _ _ us hl => match us, hl with | [_, _], _ => rfl
  have b32 := F32.binds (ps := ["part", "letter"]) fun _ _ _ _ _ _ us hl => match us, hl with | [_, _], _ => rfl
  have b33 := F33.binds (ps := ["self", "gap", "comer"]) fun _ _ _ _ _ _ us hl => match us, hl with | [_, _, _], _ => rfl
  have b34 := F34.binds (ps := ["self", "gap", "comer"]) fun _ _ _ _ _ _ us hl => match us, hl with | [_, _, _], _ => rfl
  have b35 := F35.binds (ps := ["row", "place"]) fun _ _ _ _ _ _ us hl => match us, hl with | [_, _], _ => rfl
  have b36 := F36.binds (ps := ["letters"]) fun _ _ _ _ _ _ us hl => match us, hl with | [_], _ => rfl
  have b37 := F37.binds (ps := ["letter"]) fun _ _ _ _ _ _ us hl => match us, hl with | [_], _ => rfl
  have b38 := F38.binds (ps := ["letters", "place"]) fun _ _ _ _ _ _ us hl => match us, hl with | [_, _], _ => rfl
  have b39 := F39.binds (ps := ["book", "letters", "births", "step"]) fun _ _ _ _ _ _ us hl => match us, hl with | [_, _, _, _], _ => rfl
  have b40 := F40.binds (ps := ["self", "step"]) fun _ _ _ _ _ _ us hl => match us, hl with | [_, _], _ => rfl
  have b41 := F41.binds (ps := ["self", "letters", "births"]) fun _ _ _ _ _ _ us hl => match us, hl with | [_, _, _], _ => rfl
  have b43 := F43.binds (ps := ["self", "place", "comer"]) fun _ _ _ _ _ _ us hl => match us, hl with | [_, _, _], _ => rfl
  have b44 := F44.binds (ps := ["_law_part_here", "_law_letter"]) fun _ _ _ _ _ _ us hl => match us, hl with | [_, _], _ => rfl
  have b45 := F45.binds (ps := ["_law_spec", "_law_gap", "_law_comer"]) fun _ _ _ _ _ _ us hl => match us, hl with | [_, _, _], _ => rfl
  have b46 := F46.binds (ps := ["_law_spec", "_law_gap", "_law_comer"]) fun _ _ _ _ _ _ us hl => match us, hl with | [_, _, _], _ => rfl
  have b47 := F47.binds (ps := ["_law_gap", "_law_word_here"]) fun _ _ _ _ _ _ us hl => match us, hl with | [_, _], _ => rfl
  have b48 := F48.binds (ps := ["_law_row"]) fun _ _ _ _ _ _ us hl => match us, hl with | [_], _ => rfl
  have b49 := F49.binds (ps := ["_law_letters_here", "_law_place"]) fun _ _ _ _ _ _ us hl => match us, hl with | [_, _], _ => rfl
  have b50 := F50.binds (ps := ["_law_spec", "_law_state", "_law_step"]) fun _ _ _ _ _ _ us hl => match us, hl with | [_, _, _], _ => rfl
  have b51 := F51.binds (ps := ["_law_state", "_law_at"]) fun _ _ _ _ _ _ us hl => match us, hl with | [_, _], _ => rfl
  have b52 := F52.binds (ps := ["index", "gone"]) fun _ _ _ _ _ _ us hl => match us, hl with | [_, _], _ => rfl
  have b53 := F53.binds (ps := ["letters", "births", "gone"]) fun _ _ _ _ _ _ us hl => match us, hl with | [_, _, _], _ => rfl
  have b54 := F54.binds (ps := ["self", "at"]) fun _ _ _ _ _ _ us hl => match us, hl with | [_, _], _ => rfl
  have b55 := F55.binds (ps := ["_law_number", "_law_gone"]) fun _ _ _ _ _ _ us hl => match us, hl with | [_, _], _ => rfl
  have b56 := F56.binds (ps := ["_law_state", "_law_gone"]) fun _ _ _ _ _ _ us hl => match us, hl with | [_, _], _ => rfl
  have b57 := F57.binds (ps := ["_law_bag", "_law_grown", "_law_state"]) fun _ _ _ _ _ _ us hl => match us, hl with | [_, _, _], _ => rfl
  have b58 := F58.binds (ps := ["self"]) fun _ _ _ _ _ _ us hl => match us, hl with | [_], _ => rfl
  have b59 := F59.binds (ps := ["_law_found", "_law_due"]) fun _ _ _ _ _ _ us hl => match us, hl with | [_, _], _ => rfl
  have b60 := F60.binds (ps := ["grown"]) fun _ _ _ _ _ _ us hl => match us, hl with | [_], _ => rfl
  have G__law_open : Callee l.prog w K mg base CX0 (cf0 K (tabA A0 A50) tabN) "_law_open" 1 1 m__law_open := callee_mk F1 (ok__law_open hK T  F1) (PySem.W.mg_of X G a1) b1
  have G__law_draw : Callee l.prog w K mg base CX0 (cf0 K (tabA A0 A50) tabN) "_law_draw" 1 2 m__law_draw := callee_mk F2 (ok__law_draw hK T  F2) (PySem.W.mg_of X G a2) b2
  have G__law_letters : Callee l.prog w K mg base CX0 (cf0 K (tabA A0 A50) tabN) "_law_letters" 2 3 m__law_letters := callee_mk F3 (ok__law_letters hK T G__law_draw F3) (PySem.W.mg_of X G a3) b3
  have G__law_some_comers : Callee l.prog w K mg base CX0 (cf0 K (tabA A0 A50) tabN) "_law_some_comers" 3 2 m__law_some_comers := callee_mk F4 (ok__law_some_comers hK T G__law_letters G__law_draw F4) (PySem.W.mg_of X G a4) b4
  have G__law_some_kinds : Callee l.prog w K mg base CX0 (cf0 K (tabA A0 A50) tabN) "_law_some_kinds" 3 2 m__law_some_kinds := callee_mk F5 (ok__law_some_kinds hK T G__law_letters G__law_draw F5) (PySem.W.mg_of X G a5) b5
  have G__law_part : Callee l.prog w K mg base CX0 (cf0 K (tabA A0 A50) tabN) "_law_part" 2 2 m__law_part := callee_mk F6 (ok__law_part hK T G__law_draw F6) (PySem.W.mg_of X G a6) b6
  have G__law_of : Callee l.prog w K mg base CX0 (cf0 K (tabA A0 A50) tabN) "_law_of" 2 2 m__law_of := callee_mk F7 (ok__law_of hK T G__law_draw F7) (PySem.W.mg_of X G a7) b7
  have G__law_string : Callee l.prog w K mg base CX0 (cf0 K (tabA A0 A50) tabN) "_law_string" 3 3 m__law_string := callee_mk F8 (ok__law_string hK T G__law_draw G__law_of F8) (PySem.W.mg_of X G a8) b8
  have G__law_line : Callee l.prog w K mg base CX0 (cf0 K (tabA A0 A50) tabN) "_law_line" 4 4 m__law_line := callee_mk F9 (ok__law_line hK T G__law_part G__law_string F9) (PySem.W.mg_of X G a9) b9
  have G__law_some_book : Callee l.prog w K mg base CX0 (cf0 K (tabA A0 A50) tabN) "_law_some_book" 5 2 m__law_some_book := callee_mk F10 (ok__law_some_book hK T G__law_some_comers G__law_some_kinds G__law_draw G__law_line G__law_of F10) (PySem.W.mg_of X G a10) b10
  have G_is_rising : Callee l.prog w K mg base CX0 (cf0 K (tabA A0 A50) tabN) "is_rising" 1 3 m_is_rising := callee_mk F11 (ok_is_rising hK T  F11) (PySem.W.mg_of X G a11) b11
  have G_is_kinds : Callee l.prog w K mg base CX0 (cf0 K (tabA A0 A50) tabN) "is_kinds" 2 1 m_is_kinds := callee_mk F12 (ok_is_kinds hK T G_is_rising F12) (PySem.W.mg_of X G a12) b12
  have G_is_comers : Callee l.prog w K mg base CX0 (cf0 K (tabA A0 A50) tabN) "is_comers" 2 1 m_is_comers := callee_mk F13 (ok_is_comers hK T G_is_rising F13) (PySem.W.mg_of X G a13) b13
  have G_line_of : Callee l.prog w K mg base CX0 (cf0 K (tabA A0 A50) tabN) "line_of" 1 1 m_line_of := callee_mk F14 (ok_line_of hK T  F14) (PySem.W.mg_of X G a14) b14
  have G_is_part : Callee l.prog w K mg base CX0 (cf0 K (tabA A0 A50) tabN) "is_part" 2 2 m_is_part := callee_mk F15 (ok_is_part hK T G_is_rising F15) (PySem.W.mg_of X G a15) b15
  have G_is_string : Callee l.prog w K mg base CX0 (cf0 K (tabA A0 A50) tabN) "is_string" 1 2 m_is_string := callee_mk F16 (ok_is_string hK T  F16) (PySem.W.mg_of X G a16) b16
  have G_is_word : Callee l.prog w K mg base CX0 (cf0 K (tabA A0 A50) tabN) "is_word" 2 2 m_is_word := callee_mk F17 (ok_is_word hK T G_is_string F17) (PySem.W.mg_of X G a17) b17
  have G_is_line : Callee l.prog w K mg base CX0 (cf0 K (tabA A0 A50) tabN) "is_line" 3 3 m_is_line := callee_mk F18 (ok_is_line hK T G_is_part G_is_word F18) (PySem.W.mg_of X G a18) b18
  have G_Book___init__ : MakeOk l.prog w K mg base CX0 (cf0 K (tabA A0 A50) tabN) 0 "Book" 4 p_Book___init__ := ⟨⟨_, (ok_Book___init__ hK T G_is_kinds G_is_comers G_is_line l19 c19), ⟨x0_mk, a19, n19, x0_kp⟩⟩, PySem.W.mg_of X G x0_at⟩
  have G_Book_read : StatOk l.prog w K mg base CX0 (cf0 K (tabA A0 A50) tabN) 0 "read" 6 (ar 1 m_Book_read) := ⟨⟨_, _, _, (cal_mk (ok_Book_read hK T G_is_kinds G_is_comers G_line_of G_is_line G_Book___init__ F20) b20), ⟨x0_rd, x0_ga⟩, a20, ⟨_, n20⟩, k20⟩⟩
  have G__law_line_text : Callee l.prog w K mg base CX0 (cf0 K (tabA A0 A50) tabN) "_law_line_text" 1 1 m__law_line_text := callee_mk F21 (ok__law_line_text hK T  F21) (PySem.W.mg_of X G a21) b21
  have G__law_book_text : Callee l.prog w K mg base CX0 (cf0 K (tabA A0 A50) tabN) "_law_book_text" 2 1 m__law_book_text := callee_mk F22 (ok__law_book_text hK T G__law_line_text F22) (PySem.W.mg_of X G a22) b22
  have G__law_book : Callee l.prog w K mg base CX0 (cf0 K (tabA A0 A50) tabN) "_law_book" 7 1 m__law_book := callee_mk F23 (ok__law_book hK T G_Book_read G__law_book_text F23) (PySem.W.mg_of X G a23) b23
  have G__law_begin : Callee l.prog w K mg base CX0 (cf0 K (tabA A0 A50) tabN) "_law_begin" 1 1 m__law_begin := callee_mk F24 (ok__law_begin hK T  F24) (PySem.W.mg_of X G a24) b24
  have G_is_row : Callee l.prog w K mg base CX0 (cf0 K (tabA A0 A50) tabN) "is_row" 2 2 m_is_row := callee_mk F25 (ok_is_row hK T G_is_string F25) (PySem.W.mg_of X G a25) b25
  have G_is_number : Callee l.prog w K mg base CX0 (cf0 K (tabA A0 A50) tabN) "is_number" 1 3 m_is_number := callee_mk F26 (ok_is_number hK T  F26) (PySem.W.mg_of X G a26) b26
  have G_letters_of : Callee l.prog w K mg base CX0 (cf0 K (tabA A0 A50) tabN) "letters_of" 1 1 m_letters_of := callee_mk F27 (ok_letters_of hK T  F27) (PySem.W.mg_of X G a27) b27
  have J_Grown___init__ : MakeKOk l.prog w K mg base CX0 (cf0 K (tabA A0 A50) tabN) 50 "Grown" "limit" 3 2 m_Grown___init__ := ⟨⟨_, _, _, _, _, (ok_Grown___init__ hK T G_is_row G_is_number G_letters_of F28), kb28, fun _ _ => rfl, ⟨x50_mk, a28, n28, x50_kp⟩⟩, PySem.W.mg_of X G x50_at⟩
  have G_Grown___init__ : MakeOk l.prog w K mg base CX0 (cf0 K (tabA A0 A50) tabN) 50 "Grown" 3 (arD 4 [.int 60] m_Grown___init__) := ⟨⟨_, (cal_dfl (dv := [.int 60]) (ok_Grown___init__ hK T G_is_row G_is_number G_letters_of F28) b28 rd28 (fun B => .cons (.int _) (.nil))), ⟨x50_mk, a28, n28, x50_kp⟩⟩, PySem.W.mg_of X G x50_at⟩
  have G__law_some_step : Callee l.prog w K mg base CX0 (cf0 K (tabA A0 A50) tabN) "_law_some_step" 3 3 m__law_some_step := callee_mk F29 (ok__law_some_step hK T G__law_of G__law_draw F29) (PySem.W.mg_of X G a29) b29
  have G_is_one : Callee l.prog w K mg base CX0 (cf0 K (tabA A0 A50) tabN) "is_one" 1 2 m_is_one := callee_mk F30 (ok_is_one hK T  F30) (PySem.W.mg_of X G a30) b30
  have G_is_gap : Callee l.prog w K mg base CX0 (cf0 K (tabA A0 A50) tabN) "is_gap" 1 2 m_is_gap := callee_mk F31 (ok_is_gap hK T  F31) (PySem.W.mg_of X G a31) b31
  have G_takes : Callee l.prog w K mg base CX0 (cf0 K (tabA A0 A50) tabN) "takes" 1 2 m_takes := callee_mk F32 (ok_takes hK T  F32) (PySem.W.mg_of X G a32) b32
  have G_Book_line_at : MethOk l.prog w K mg base CX0 (cf0 K (tabA A0 A50) tabN) 0 "line_at" 2 (ar 3 m_Book_line_at) := ⟨⟨_, (cal_mk (ok_Book_line_at hK T G_is_gap G_is_one G_takes F33) b33), ⟨a33, n33, k33⟩⟩, x0_cl, show ixOf "line_at" (tabN 0) = none by decide +kernel⟩
  have G_Book_word : MethOk l.prog w K mg base CX0 (cf0 K (tabA A0 A50) tabN) 0 "word" 3 (ar 3 m_Book_word) := ⟨⟨_, (cal_mk (ok_Book_word hK T G_Book_line_at F34) b34), ⟨a34, n34, k34⟩⟩, x0_cl, show ixOf "word" (tabN 0) = none by decide +kernel⟩
  have G_gap_at : Callee l.prog w K mg base CX0 (cf0 K (tabA A0 A50) tabN) "gap_at" 1 2 m_gap_at := callee_mk F35 (ok_gap_at hK T  F35) (PySem.W.mg_of X G a35) b35
  have G_spelled_letters : Callee l.prog w K mg base CX0 (cf0 K (tabA A0 A50) tabN) "spelled_letters" 1 1 m_spelled_letters := callee_mk F36 (ok_spelled_letters hK T  F36) (PySem.W.mg_of X G a36) b36
  have G_age_of : Callee l.prog w K mg base CX0 (cf0 K (tabA A0 A50) tabN) "age_of" 1 1 m_age_of := callee_mk F37 (ok_age_of hK T  F37) (PySem.W.mg_of X G a37) b37
  have G_birth_home : Callee l.prog w K mg base CX0 (cf0 K (tabA A0 A50) tabN) "birth_home" 2 2 m_birth_home := callee_mk F38 (ok_birth_home hK T G_age_of F38) (PySem.W.mg_of X G a38) b38
  have G_with_birth : Callee l.prog w K mg base CX0 (cf0 K (tabA A0 A50) tabN) "with_birth" 4 4 m_with_birth := callee_mk F39 (ok_with_birth hK T G_Book_word G_gap_at G_spelled_letters G_birth_home F39) (PySem.W.mg_of X G a39) b39
  have G_Grown_put_in : MethOk l.prog w K mg base CX0 (cf0 K (tabA A0 A50) tabN) 50 "put_in" 5 (ar 2 m_Grown_put_in) := ⟨⟨_, (cal_mk (ok_Grown_put_in hK T G_is_number G_with_birth F40) b40), ⟨a40, n40, k40⟩⟩, x50_cl, show ixOf "put_in" (tabN 50) = none by decide +kernel⟩
  have G_Grown_turn_to : MethOk l.prog w K mg base CX0 (cf0 K (tabA A0 A50) tabN) 50 "turn_to" 1 (ar 3 m_Grown_turn_to) := ⟨⟨_, (cal_mk (ok_Grown_turn_to hK T  F41) b41), ⟨a41, n41, k41⟩⟩, x50_cl, show ixOf "turn_to" (tabN 50) = none by decide +kernel⟩
  have G_Grown_put_all : MethOk l.prog w K mg base CX0 (cf0 K (tabA A0 A50) tabN) 50 "put_all" 6 p_Grown_put_all := ⟨⟨_, (ok_Grown_put_all hK T G_is_number G_is_one G_Grown_put_in G_Grown_turn_to l42 c42), ⟨a42, n42, k42⟩⟩, x50_cl, show ixOf "put_all" (tabN 50) = none by decide +kernel⟩
  have G_Grown_put : MethOk l.prog w K mg base CX0 (cf0 K (tabA A0 A50) tabN) 50 "put" 7 (ar 3 m_Grown_put) := ⟨⟨_, (cal_mk (ok_Grown_put hK T G_is_number G_is_one G_Grown_put_all F43) b43), ⟨a43, n43, k43⟩⟩, x50_cl, show ixOf "put" (tabN 50) = none by decide +kernel⟩
  have G__law_fits : Callee l.prog w K mg base CX0 (cf0 K (tabA A0 A50) tabN) "_law_fits" 1 2 m__law_fits := callee_mk F44 (ok__law_fits hK T  F44) (PySem.W.mg_of X G a44) b44
  have G__law_line_at : Callee l.prog w K mg base CX0 (cf0 K (tabA A0 A50) tabN) "_law_line_at" 2 3 m__law_line_at := callee_mk F45 (ok__law_line_at hK T G__law_fits F45) (PySem.W.mg_of X G a45) b45
  have G__law_word : Callee l.prog w K mg base CX0 (cf0 K (tabA A0 A50) tabN) "_law_word" 3 3 m__law_word := callee_mk F46 (ok__law_word hK T G__law_line_at F46) (PySem.W.mg_of X G a46) b46
  have G__law_parts : Callee l.prog w K mg base CX0 (cf0 K (tabA A0 A50) tabN) "_law_parts" 1 2 m__law_parts := callee_mk F47 (ok__law_parts hK T  F47) (PySem.W.mg_of X G a47) b47
  have G__law_row_gaps : Callee l.prog w K mg base CX0 (cf0 K (tabA A0 A50) tabN) "_law_row_gaps" 2 1 m__law_row_gaps := callee_mk F48 (ok__law_row_gaps hK T G__law_parts F48) (PySem.W.mg_of X G a48) b48
  have G__law_home : Callee l.prog w K mg base CX0 (cf0 K (tabA A0 A50) tabN) "_law_home" 1 2 m__law_home := callee_mk F49 (ok__law_home hK T  F49) (PySem.W.mg_of X G a49) b49
  have G__law_put : Callee l.prog w K mg base CX0 (cf0 K (tabA A0 A50) tabN) "_law_put" 4 3 m__law_put := callee_mk F50 (ok__law_put hK T G__law_word G__law_row_gaps G__law_home F50) (PySem.W.mg_of X G a50) b50
  have G__law_take_due : Callee l.prog w K mg base CX0 (cf0 K (tabA A0 A50) tabN) "_law_take_due" 1 2 m__law_take_due := callee_mk F51 (ok__law_take_due hK T  F51) (PySem.W.mg_of X G a51) b51
  have G_lowered : Callee l.prog w K mg base CX0 (cf0 K (tabA A0 A50) tabN) "lowered" 1 2 m_lowered := callee_mk F52 (ok_lowered hK T  F52) (PySem.W.mg_of X G a52) b52
  have G_without_birth : Callee l.prog w K mg base CX0 (cf0 K (tabA A0 A50) tabN) "without_birth" 2 3 m_without_birth := callee_mk F53 (ok_without_birth hK T G_lowered F53) (PySem.W.mg_of X G a53) b53
  have G_Grown_take : MethOk l.prog w K mg base CX0 (cf0 K (tabA A0 A50) tabN) 50 "take" 3 (ar 2 m_Grown_take) := ⟨⟨_, (cal_mk (ok_Grown_take hK T G_is_number G_without_birth G_Grown_turn_to F54) b54), ⟨a54, n54, k54⟩⟩, x50_cl, show ixOf "take" (tabN 50) = none by decide +kernel⟩
  have G__law_less : Callee l.prog w K mg base CX0 (cf0 K (tabA A0 A50) tabN) "_law_less" 1 2 m__law_less := callee_mk F55 (ok__law_less hK T  F55) (PySem.W.mg_of X G a55) b55
  have G__law_taken : Callee l.prog w K mg base CX0 (cf0 K (tabA A0 A50) tabN) "_law_taken" 2 2 m__law_taken := callee_mk F56 (ok__law_taken hK T G__law_less F56) (PySem.W.mg_of X G a56) b56
  have G__law_try_take : Callee l.prog w K mg base CX0 (cf0 K (tabA A0 A50) tabN) "_law_try_take" 4 3 m__law_try_take := callee_mk F57 (ok__law_try_take hK T G__law_draw G__law_take_due G_Grown_take G__law_taken F57) (PySem.W.mg_of X G a57) b57
  have G_Grown_births : MethOk l.prog w K mg base CX0 (cf0 K (tabA A0 A50) tabN) 50 "births" 1 (ar 1 m_Grown_births) := ⟨⟨_, (cal_mk (ok_Grown_births hK T  F58) b58), ⟨a58, n58, k58⟩⟩, x50_cl, show ixOf "births" (tabN 50) = none by decide +kernel⟩
  have G_columns_o : Callee l.prog w K mg base CX0 (cf0 K (tabA A0 A50) tabN) "columns" 2 1 m_columns_o := callee_mk F60 (ok_columns_o hK T G_Grown_births F60) (PySem.W.mg_of X G a60) b60
  have G__law_same : Callee l.prog w K mg base CX0 (cf0 K (tabA A0 A50) tabN) "_law_same" 9 2 (m__law_same 8) := callee_mk F59 (ok__law_same hK T  F59 (PySem.W.mg_of X G a59) b59 8) (PySem.W.mg_of X G a59) b59
  have G_columns : Callee l.prog w K mg base CX0 (cf0 K (tabA A0 A50) tabN) "columns" 2 1 m_columns := callee_mk F60 (ok_columns hK T G_Grown_births F60) (PySem.W.mg_of X G a60) b60
  exact law_imp hK (ok_law hK T G__law_open G__law_some_book G__law_string G__law_book G__law_begin J_Grown___init__ G__law_draw G__law_some_step G_Grown_put G__law_put G__law_try_take G_columns_o G__law_same G_columns G_Grown___init__ F61) law_true
end G
open PySem PySem.W PyProof.Rows
set_option maxRecDepth 100000 in
set_option maxHeartbeats 0 in
theorem PySem.Challenge.cw_gapborn_k71_columns_of_births_holds : PySem.Challenge.rw_gapborn_k71_columns_of_births.Holds := by
  w_on; o_law
  refine HandSHeadRun.head_any (r := G.rowR) (q := G.viewR) (H := Hd.hook G.cks G.fds) (ob := Hd.ob G.cks G.fds) (M := 60000) (loose := G.looseR) (d := HandSHeadRun.topDef (G.rowR).prog 82) (kwd := []) (Hd.ob_eq _ _) (by kernel_rfl) (fun s => by kernel_rfl) G.runR (by kernel_rfl) (by kernel_rfl) (by kernel_rfl) (by rfl) (by first | assumption | decide +kernel) (by decide +kernel) ⟨rfl, rfl, rfl, rfl, rfl, by decide +kernel⟩ ?hw ?hc
  case hw => w_witness2
  case hc =>
    refine L2.walk_ofE (l := PySem.Challenge.rw_gapborn_k71_columns_of_births) (n := 63) (k := 10) (x := "_law_script") (CX := L2.CX0) rfl (by decide) (by kernel_rfl) ⟨rfl, by decide, by decide⟩ ?F (fun _ _ _ _ z => z)
    intro w mg fa h Y Gh hmg0
    obtain ⟨K, KX, c⟩ := Y
    have hmg : mg "law" = some (.ref fa) := by
      have e : (HandSHeadRun.topDef (G.rowR).prog 82).name = ("law" : PySem.Str) := by kernel_rfl
      rw [← e]
      exact hmg0
    have x0_at := Hd.ns (show Hd.Fa K (Hd.cNs mainGlobals "Book" (some (.ref 514))) from c.ck 0 _ rfl)
    have x0_pg := Hd.pg (show Hd.Fa K (fun A => PySem.W.plainGet A 514 Str.empty) from c.ck 1 _ rfl)
    have x0_hd := Hd.hd (show Hd.Fa K (fun A => PySem.W.hasDictIn A 514) from c.ck 2 _ rfl)
    have x0_po := Hd.po (show Hd.Fa K (fun A => PySem.W.plainOver A 514) from c.ck 3 _ rfl)
    have x0_sa := Hd.fi (show Hd.Fa K (Hd.cFi (.ref 514) "__setattr__" (some (.builtin "object.__setattr__"))) from c.ck 4 _ rfl)
    have x0_na_kinds := Hd.fi (show Hd.Fa K (Hd.cFi (.ref 514) "kinds" none) from c.ck 5 _ rfl)
    have x0_na_comers := Hd.fi (show Hd.Fa K (Hd.cFi (.ref 514) "comers" none) from c.ck 6 _ rfl)
    have x0_na_own_lines := Hd.fi (show Hd.Fa K (Hd.cFi (.ref 514) "own_lines" none) from c.ck 7 _ rfl)
    have x0_rd := Hd.rd (show Hd.Fa K (fun A => PySem.W.readsIn A 514 (.type "type")) from c.ck 8 _ rfl)
    have x0_ga := Hd.sp (show Hd.Fa K (Hd.cSp (.ref 514) "__getattribute__" (some (.builtin "type.__getattribute__"))) from c.ck 9 _ rfl)
    obtain ⟨_, x0_cv_MOST⟩ := Hd.cv (show Hd.Fa K (fun A => Hd.isC (PySem.W.findCls A (.ref 514) (.type "type") "MOST") 8) from c.ck 10 _ rfl)
    have x0_mk := Hd.mk (show Hd.Fa K (fun A => PySem.W.makesIn A 514) from c.ck 11 _ rfl)
    have x0_kp := Hd.kp (show Hd.Fa K (fun A => PySem.W.keepIn A (.ref 514)) from c.ck 12 _ rfl)
    have x50_at := Hd.ns (show Hd.Fa K (Hd.cNs mainGlobals "Grown" (some (.ref 774))) from c.ck 13 _ rfl)
    have x50_pg := Hd.pg (show Hd.Fa K (fun A => PySem.W.plainGet A 774 Str.empty) from c.ck 14 _ rfl)
    have x50_hd := Hd.hd (show Hd.Fa K (fun A => PySem.W.hasDictIn A 774) from c.ck 15 _ rfl)
    have x50_po := Hd.po (show Hd.Fa K (fun A => PySem.W.plainOver A 774) from c.ck 16 _ rfl)
    have x50_sa := Hd.fi (show Hd.Fa K (Hd.cFi (.ref 774) "__setattr__" (some (.builtin "object.__setattr__"))) from c.ck 17 _ rfl)
    have x50_na_book := Hd.fi (show Hd.Fa K (Hd.cFi (.ref 774) "book" none) from c.ck 18 _ rfl)
    have x50_na_start := Hd.fi (show Hd.Fa K (Hd.cFi (.ref 774) "start" none) from c.ck 19 _ rfl)
    have x50_na_busy := Hd.fi (show Hd.Fa K (Hd.cFi (.ref 774) "busy" none) from c.ck 20 _ rfl)
    have x50_na_own_limit := Hd.fi (show Hd.Fa K (Hd.cFi (.ref 774) "own_limit" none) from c.ck 21 _ rfl)
    have x50_na_letters := Hd.fi (show Hd.Fa K (Hd.cFi (.ref 774) "letters" none) from c.ck 22 _ rfl)
    have x50_na_own_births := Hd.fi (show Hd.Fa K (Hd.cFi (.ref 774) "own_births" none) from c.ck 23 _ rfl)
    have x50_na_past := Hd.fi (show Hd.Fa K (Hd.cFi (.ref 774) "past" none) from c.ck 24 _ rfl)
    have x50_na_ahead := Hd.fi (show Hd.Fa K (Hd.cFi (.ref 774) "ahead" none) from c.ck 25 _ rfl)
    have x50_rd := Hd.rd (show Hd.Fa K (fun A => PySem.W.readsIn A 774 (.type "type")) from c.ck 26 _ rfl)
    have x50_ga := Hd.sp (show Hd.Fa K (Hd.cSp (.ref 774) "__getattribute__" (some (.builtin "type.__getattribute__"))) from c.ck 27 _ rfl)
    obtain ⟨_, x50_cv_MOST⟩ := Hd.cv (show Hd.Fa K (fun A => Hd.isC (PySem.W.findCls A (.ref 774) (.type "type") "MOST") 99) from c.ck 28 _ rfl)
    have x50_mk := Hd.mk (show Hd.Fa K (fun A => PySem.W.makesIn A 774) from c.ck 29 _ rfl)
    have x50_kp := Hd.kp (show Hd.Fa K (fun A => PySem.W.keepIn A (.ref 774)) from c.ck 30 _ rfl)
    have a1 := Hd.ns (show Hd.Fa K (Hd.cNs mainGlobals "_law_open" (some (.ref 792))) from c.ck 31 _ rfl)
    obtain ⟨_, _, _, _, _, _, _, l1⟩ := c.fd 0 _ rfl
    have c1 := Hd.co (show Hd.Fa K (fun A => PySem.W.codeIn A (.ref 791) "_law_open") from c.ck 32 _ rfl)
    have k1 := Hd.kp (show Hd.Fa K (fun A => PySem.W.keepIn A (.ref 792)) from c.ck 33 _ rfl)
    have a2 := Hd.ns (show Hd.Fa K (Hd.cNs mainGlobals "_law_draw" (some (.ref 799))) from c.ck 34 _ rfl)
    obtain ⟨_, _, _, _, _, _, _, l2⟩ := c.fd 1 _ rfl
    have c2 := Hd.co (show Hd.Fa K (fun A => PySem.W.codeIn A (.ref 798) "_law_draw") from c.ck 35 _ rfl)
    have k2 := Hd.kp (show Hd.Fa K (fun A => PySem.W.keepIn A (.ref 799)) from c.ck 36 _ rfl)
    have a3 := Hd.ns (show Hd.Fa K (Hd.cNs mainGlobals "_law_letters" (some (.ref 818))) from c.ck 37 _ rfl)
    obtain ⟨_, _, _, _, _, _, _, l3⟩ := c.fd 2 _ rfl
    have c3 := Hd.co (show Hd.Fa K (fun A => PySem.W.codeIn A (.ref 817) "_law_letters") from c.ck 38 _ rfl)
    have k3 := Hd.kp (show Hd.Fa K (fun A => PySem.W.keepIn A (.ref 818)) from c.ck 39 _ rfl)
    have a4 := Hd.ns (show Hd.Fa K (Hd.cNs mainGlobals "_law_some_comers" (some (.ref 832))) from c.ck 40 _ rfl)
    obtain ⟨_, _, _, _, _, _, _, l4⟩ := c.fd 3 _ rfl
    have c4 := Hd.co (show Hd.Fa K (fun A => PySem.W.codeIn A (.ref 831) "_law_some_comers") from c.ck 41 _ rfl)
    have k4 := Hd.kp (show Hd.Fa K (fun A => PySem.W.keepIn A (.ref 832)) from c.ck 42 _ rfl)
    have a5 := Hd.ns (show Hd.Fa K (Hd.cNs mainGlobals "_law_some_kinds" (some (.ref 825))) from c.ck 43 _ rfl)
    obtain ⟨_, _, _, _, _, _, _, l5⟩ := c.fd 4 _ rfl
    have c5 := Hd.co (show Hd.Fa K (fun A => PySem.W.codeIn A (.ref 824) "_law_some_kinds") from c.ck 44 _ rfl)
    have k5 := Hd.kp (show Hd.Fa K (fun A => PySem.W.keepIn A (.ref 825)) from c.ck 45 _ rfl)
    have a6 := Hd.ns (show Hd.Fa K (Hd.cNs mainGlobals "_law_part" (some (.ref 837))) from c.ck 46 _ rfl)
    obtain ⟨_, _, _, _, _, _, _, l6⟩ := c.fd 5 _ rfl
    have c6 := Hd.co (show Hd.Fa K (fun A => PySem.W.codeIn A (.ref 836) "_law_part") from c.ck 47 _ rfl)
    have k6 := Hd.kp (show Hd.Fa K (fun A => PySem.W.keepIn A (.ref 837)) from c.ck 48 _ rfl)
    have a7 := Hd.ns (show Hd.Fa K (Hd.cNs mainGlobals "_law_of" (some (.ref 806))) from c.ck 49 _ rfl)
    obtain ⟨_, _, _, _, _, _, _, l7⟩ := c.fd 6 _ rfl
    have c7 := Hd.co (show Hd.Fa K (fun A => PySem.W.codeIn A (.ref 805) "_law_of") from c.ck 50 _ rfl)
    have k7 := Hd.kp (show Hd.Fa K (fun A => PySem.W.keepIn A (.ref 806)) from c.ck 51 _ rfl)
    have a8 := Hd.ns (show Hd.Fa K (Hd.cNs mainGlobals "_law_string" (some (.ref 842))) from c.ck 52 _ rfl)
    obtain ⟨_, _, _, _, _, _, _, l8⟩ := c.fd 7 _ rfl
    have c8 := Hd.co (show Hd.Fa K (fun A => PySem.W.codeIn A (.ref 841) "_law_string") from c.ck 53 _ rfl)
    have k8 := Hd.kp (show Hd.Fa K (fun A => PySem.W.keepIn A (.ref 842)) from c.ck 54 _ rfl)
    have a9 := Hd.ns (show Hd.Fa K (Hd.cNs mainGlobals "_law_line" (some (.ref 849))) from c.ck 55 _ rfl)
    obtain ⟨_, _, _, _, _, _, _, l9⟩ := c.fd 8 _ rfl
    have c9 := Hd.co (show Hd.Fa K (fun A => PySem.W.codeIn A (.ref 848) "_law_line") from c.ck 56 _ rfl)
    have k9 := Hd.kp (show Hd.Fa K (fun A => PySem.W.keepIn A (.ref 849)) from c.ck 57 _ rfl)
    have a10 := Hd.ns (show Hd.Fa K (Hd.cNs mainGlobals "_law_some_book" (some (.ref 854))) from c.ck 58 _ rfl)
    obtain ⟨_, _, _, _, _, _, _, l10⟩ := c.fd 9 _ rfl
    have c10 := Hd.co (show Hd.Fa K (fun A => PySem.W.codeIn A (.ref 853) "_law_some_book") from c.ck 59 _ rfl)
    have k10 := Hd.kp (show Hd.Fa K (fun A => PySem.W.keepIn A (.ref 854)) from c.ck 60 _ rfl)
    have a11 := Hd.ns (show Hd.Fa K (Hd.cNs mainGlobals "is_rising" (some (.ref 353))) from c.ck 61 _ rfl)
    obtain ⟨_, _, _, _, _, _, _, l11⟩ := c.fd 10 _ rfl
    have c11 := Hd.co (show Hd.Fa K (fun A => PySem.W.codeIn A (.ref 352) "is_rising") from c.ck 62 _ rfl)
    have k11 := Hd.kp (show Hd.Fa K (fun A => PySem.W.keepIn A (.ref 353)) from c.ck 63 _ rfl)
    have a12 := Hd.ns (show Hd.Fa K (Hd.cNs mainGlobals "is_kinds" (some (.ref 360))) from c.ck 64 _ rfl)
    obtain ⟨_, _, _, _, _, _, _, l12⟩ := c.fd 11 _ rfl
    have c12 := Hd.co (show Hd.Fa K (fun A => PySem.W.codeIn A (.ref 359) "is_kinds") from c.ck 65 _ rfl)
    have k12 := Hd.kp (show Hd.Fa K (fun A => PySem.W.keepIn A (.ref 360)) from c.ck 66 _ rfl)
    have a13 := Hd.ns (show Hd.Fa K (Hd.cNs mainGlobals "is_comers" (some (.ref 367))) from c.ck 67 _ rfl)
    obtain ⟨_, _, _, _, _, _, _, l13⟩ := c.fd 12 _ rfl
    have c13 := Hd.co (show Hd.Fa K (fun A => PySem.W.codeIn A (.ref 366) "is_comers") from c.ck 68 _ rfl)
    have k13 := Hd.kp (show Hd.Fa K (fun A => PySem.W.keepIn A (.ref 367)) from c.ck 69 _ rfl)
    have a14 := Hd.ns (show Hd.Fa K (Hd.cNs mainGlobals "line_of" (some (.ref 546))) from c.ck 70 _ rfl)
    obtain ⟨_, _, _, _, _, _, _, l14⟩ := c.fd 13 _ rfl
    have c14 := Hd.co (show Hd.Fa K (fun A => PySem.W.codeIn A (.ref 545) "line_of") from c.ck 71 _ rfl)
    have k14 := Hd.kp (show Hd.Fa K (fun A => PySem.W.keepIn A (.ref 546)) from c.ck 72 _ rfl)
    have a15 := Hd.ns (show Hd.Fa K (Hd.cNs mainGlobals "is_part" (some (.ref 525))) from c.ck 73 _ rfl)
    obtain ⟨_, _, _, _, _, _, _, l15⟩ := c.fd 14 _ rfl
    have c15 := Hd.co (show Hd.Fa K (fun A => PySem.W.codeIn A (.ref 524) "is_part") from c.ck 74 _ rfl)
    have k15 := Hd.kp (show Hd.Fa K (fun A => PySem.W.keepIn A (.ref 525)) from c.ck 75 _ rfl)
    have a16 := Hd.ns (show Hd.Fa K (Hd.cNs mainGlobals "is_string" (some (.ref 379))) from c.ck 76 _ rfl)
    obtain ⟨_, _, _, _, _, _, _, l16⟩ := c.fd 15 _ rfl
    have c16 := Hd.co (show Hd.Fa K (fun A => PySem.W.codeIn A (.ref 378) "is_string") from c.ck 77 _ rfl)
    have k16 := Hd.kp (show Hd.Fa K (fun A => PySem.W.keepIn A (.ref 379)) from c.ck 78 _ rfl)
    have a17 := Hd.ns (show Hd.Fa K (Hd.cNs mainGlobals "is_word" (some (.ref 393))) from c.ck 79 _ rfl)
    obtain ⟨_, _, _, _, _, _, _, l17⟩ := c.fd 16 _ rfl
    have c17 := Hd.co (show Hd.Fa K (fun A => PySem.W.codeIn A (.ref 392) "is_word") from c.ck 80 _ rfl)
    have k17 := Hd.kp (show Hd.Fa K (fun A => PySem.W.keepIn A (.ref 393)) from c.ck 81 _ rfl)
    have a18 := Hd.ns (show Hd.Fa K (Hd.cNs mainGlobals "is_line" (some (.ref 532))) from c.ck 82 _ rfl)
    obtain ⟨_, _, _, _, _, _, _, l18⟩ := c.fd 17 _ rfl
    have c18 := Hd.co (show Hd.Fa K (fun A => PySem.W.codeIn A (.ref 531) "is_line") from c.ck 83 _ rfl)
    have k18 := Hd.kp (show Hd.Fa K (fun A => PySem.W.keepIn A (.ref 532)) from c.ck 84 _ rfl)
    have a19 := Hd.fi (show Hd.Fa K (Hd.cFi (.ref 514) "__init__" (some (.ref 426))) from c.ck 85 _ rfl)
    have n19 := Hd.isf (show Hd.Fa K (fun A => PySem.W.isFn A (.ref 426)) from c.ck 86 _ rfl)
    obtain ⟨_, _, _, _, _, _, _, l19⟩ := c.fd 18 _ rfl
    have c19 := Hd.co (show Hd.Fa K (fun A => PySem.W.codeIn A (.ref 425) "Book.__init__") from c.ck 87 _ rfl)
    have k19 := Hd.kp (show Hd.Fa K (fun A => PySem.W.keepIn A (.ref 426)) from c.ck 88 _ rfl)
    have a20 := Hd.cg (show Hd.Fa K (fun A => Hd.isG (PySem.W.findCls A (.ref 514) (.type "type") "read") (.builtin "staticmethod.__get__") (.ref 510) .none (.ref 514)) from c.ck 89 _ rfl)
    obtain ⟨_, n20⟩ := Hd.rc (show Hd.Fa K (fun A => Hd.isR (PySem.W.recIn A 510 "staticmethod") 508) from c.ck 90 _ rfl)
    obtain ⟨_, _, _, _, _, _, _, l20⟩ := c.fd 19 _ rfl
    have c20 := Hd.co (show Hd.Fa K (fun A => PySem.W.codeIn A (.ref 507) "Book.read") from c.ck 91 _ rfl)
    have k20 := Hd.kp (show Hd.Fa K (fun A => PySem.W.keepIn A (.ref 508)) from c.ck 92 _ rfl)
    have a21 := Hd.ns (show Hd.Fa K (Hd.cNs mainGlobals "_law_line_text" (some (.ref 861))) from c.ck 93 _ rfl)
    obtain ⟨_, _, _, _, _, _, _, l21⟩ := c.fd 20 _ rfl
    have c21 := Hd.co (show Hd.Fa K (fun A => PySem.W.codeIn A (.ref 860) "_law_line_text") from c.ck 94 _ rfl)
    have k21 := Hd.kp (show Hd.Fa K (fun A => PySem.W.keepIn A (.ref 861)) from c.ck 95 _ rfl)
    have a22 := Hd.ns (show Hd.Fa K (Hd.cNs mainGlobals "_law_book_text" (some (.ref 866))) from c.ck 96 _ rfl)
    obtain ⟨_, _, _, _, _, _, _, l22⟩ := c.fd 21 _ rfl
    have c22 := Hd.co (show Hd.Fa K (fun A => PySem.W.codeIn A (.ref 865) "_law_book_text") from c.ck 97 _ rfl)
    have k22 := Hd.kp (show Hd.Fa K (fun A => PySem.W.keepIn A (.ref 866)) from c.ck 98 _ rfl)
    have a23 := Hd.ns (show Hd.Fa K (Hd.cNs mainGlobals "_law_book" (some (.ref 873))) from c.ck 99 _ rfl)
    obtain ⟨_, _, _, _, _, _, _, l23⟩ := c.fd 22 _ rfl
    have c23 := Hd.co (show Hd.Fa K (fun A => PySem.W.codeIn A (.ref 872) "_law_book") from c.ck 100 _ rfl)
    have k23 := Hd.kp (show Hd.Fa K (fun A => PySem.W.keepIn A (.ref 873)) from c.ck 101 _ rfl)
    have a24 := Hd.ns (show Hd.Fa K (Hd.cNs mainGlobals "_law_begin" (some (.ref 918))) from c.ck 102 _ rfl)
    obtain ⟨_, _, _, _, _, _, _, l24⟩ := c.fd 23 _ rfl
    have c24 := Hd.co (show Hd.Fa K (fun A => PySem.W.codeIn A (.ref 917) "_law_begin") from c.ck 103 _ rfl)
    have k24 := Hd.kp (show Hd.Fa K (fun A => PySem.W.keepIn A (.ref 918)) from c.ck 104 _ rfl)
    have a25 := Hd.ns (show Hd.Fa K (Hd.cNs mainGlobals "is_row" (some (.ref 386))) from c.ck 105 _ rfl)
    obtain ⟨_, _, _, _, _, _, _, l25⟩ := c.fd 24 _ rfl
    have c25 := Hd.co (show Hd.Fa K (fun A => PySem.W.codeIn A (.ref 385) "is_row") from c.ck 106 _ rfl)
    have k25 := Hd.kp (show Hd.Fa K (fun A => PySem.W.keepIn A (.ref 386)) from c.ck 107 _ rfl)
    have a26 := Hd.ns (show Hd.Fa K (Hd.cNs mainGlobals "is_number" (some (.ref 348))) from c.ck 108 _ rfl)
    obtain ⟨_, _, _, _, _, _, _, l26⟩ := c.fd 25 _ rfl
    have c26 := Hd.co (show Hd.Fa K (fun A => PySem.W.codeIn A (.ref 347) "is_number") from c.ck 109 _ rfl)
    have k26 := Hd.kp (show Hd.Fa K (fun A => PySem.W.keepIn A (.ref 348)) from c.ck 110 _ rfl)
    have a27 := Hd.ns (show Hd.Fa K (Hd.cNs mainGlobals "letters_of" (some (.ref 551))) from c.ck 111 _ rfl)
    obtain ⟨_, _, _, _, _, _, _, l27⟩ := c.fd 26 _ rfl
    have c27 := Hd.co (show Hd.Fa K (fun A => PySem.W.codeIn A (.ref 550) "letters_of") from c.ck 112 _ rfl)
    have k27 := Hd.kp (show Hd.Fa K (fun A => PySem.W.keepIn A (.ref 551)) from c.ck 113 _ rfl)
    have a28 := Hd.fi (show Hd.Fa K (Hd.cFi (.ref 774) "__init__" (some (.ref 615))) from c.ck 114 _ rfl)
    have n28 := Hd.isf (show Hd.Fa K (fun A => PySem.W.isFn A (.ref 615)) from c.ck 115 _ rfl)
    obtain ⟨_, _, _, _, _, _, _, l28⟩ := c.fd 27 _ rfl
    obtain ⟨_, kk28_0⟩ := Hd.nsI (show Hd.Fa K (fun A => Hd.isI (PySem.W.nsIn A 608 "limit") 60) from c.ck 116 _ rfl)
    obtain ⟨_, _, _, _, _, lt28⟩ := Hd.ldS (show Hd.Fa K (fun A => Hd.isD (A.lookup 607) (Hd.vS "")) from c.ck 117 _ rfl)
    have c28 := Hd.co (show Hd.Fa K (fun A => PySem.W.codeIn A (.ref 614) "Grown.__init__") from c.ck 118 _ rfl)
    have k28 := Hd.kp (show Hd.Fa K (fun A => PySem.W.keepIn A (.ref 615)) from c.ck 119 _ rfl)
    have a29 := Hd.ns (show Hd.Fa K (Hd.cNs mainGlobals "_law_some_step" (some (.ref 947))) from c.ck 120 _ rfl)
    obtain ⟨_, _, _, _, _, _, _, l29⟩ := c.fd 28 _ rfl
    have c29 := Hd.co (show Hd.Fa K (fun A => PySem.W.codeIn A (.ref 946) "_law_some_step") from c.ck 121 _ rfl)
    have k29 := Hd.kp (show Hd.Fa K (fun A => PySem.W.keepIn A (.ref 947)) from c.ck 122 _ rfl)
    have a30 := Hd.ns (show Hd.Fa K (Hd.cNs mainGlobals "is_one" (some (.ref 374))) from c.ck 123 _ rfl)
    obtain ⟨_, _, _, _, _, _, _, l30⟩ := c.fd 29 _ rfl
    have c30 := Hd.co (show Hd.Fa K (fun A => PySem.W.codeIn A (.ref 373) "is_one") from c.ck 124 _ rfl)
    have k30 := Hd.kp (show Hd.Fa K (fun A => PySem.W.keepIn A (.ref 374)) from c.ck 125 _ rfl)
    have a31 := Hd.ns (show Hd.Fa K (Hd.cNs mainGlobals "is_gap" (some (.ref 400))) from c.ck 126 _ rfl)
    obtain ⟨_, _, _, _, _, _, _, l31⟩ := c.fd 30 _ rfl
    have c31 := Hd.co (show Hd.Fa K (fun A => PySem.W.codeIn A (.ref 399) "is_gap") from c.ck 127 _ rfl)
    have k31 := Hd.kp (show Hd.Fa K (fun A => PySem.W.keepIn A (.ref 400)) from c.ck 128 _ rfl)
    have a32 := Hd.ns (show Hd.Fa K (Hd.cNs mainGlobals "takes" (some (.ref 539))) from c.ck 129 _ rfl)
    obtain ⟨_, _, _, _, _, _, _, l32⟩ := c.fd 31 _ rfl
    have c32 := Hd.co (show Hd.Fa K (fun A => PySem.W.codeIn A (.ref 538) "takes") from c.ck 130 _ rfl)
    have k32 := Hd.kp (show Hd.Fa K (fun A => PySem.W.keepIn A (.ref 539)) from c.ck 131 _ rfl)
    have a33 := Hd.fi (show Hd.Fa K (Hd.cFi (.ref 514) "line_at" (some (.ref 440))) from c.ck 132 _ rfl)
    have n33 := Hd.isf (show Hd.Fa K (fun A => PySem.W.isFn A (.ref 440)) from c.ck 133 _ rfl)
    obtain ⟨_, _, _, _, _, _, _, l33⟩ := c.fd 32 _ rfl
    have c33 := Hd.co (show Hd.Fa K (fun A => PySem.W.codeIn A (.ref 439) "Book.line_at") from c.ck 134 _ rfl)
    have k33 := Hd.kp (show Hd.Fa K (fun A => PySem.W.keepIn A (.ref 440)) from c.ck 135 _ rfl)
    have a34 := Hd.fi (show Hd.Fa K (Hd.cFi (.ref 514) "word" (some (.ref 447))) from c.ck 136 _ rfl)
    have n34 := Hd.isf (show Hd.Fa K (fun A => PySem.W.isFn A (.ref 447)) from c.ck 137 _ rfl)
    obtain ⟨_, _, _, _, _, _, _, l34⟩ := c.fd 33 _ rfl
    have c34 := Hd.co (show Hd.Fa K (fun A => PySem.W.codeIn A (.ref 446) "Book.word") from c.ck 138 _ rfl)
    have k34 := Hd.kp (show Hd.Fa K (fun A => PySem.W.keepIn A (.ref 447)) from c.ck 139 _ rfl)
    have a35 := Hd.ns (show Hd.Fa K (Hd.cNs mainGlobals "gap_at" (some (.ref 412))) from c.ck 140 _ rfl)
    obtain ⟨_, _, _, _, _, _, _, l35⟩ := c.fd 34 _ rfl
    have c35 := Hd.co (show Hd.Fa K (fun A => PySem.W.codeIn A (.ref 411) "gap_at") from c.ck 141 _ rfl)
    have k35 := Hd.kp (show Hd.Fa K (fun A => PySem.W.keepIn A (.ref 412)) from c.ck 142 _ rfl)
    have a36 := Hd.ns (show Hd.Fa K (Hd.cNs mainGlobals "spelled_letters" (some (.ref 556))) from c.ck 143 _ rfl)
    obtain ⟨_, _, _, _, _, _, _, l36⟩ := c.fd 35 _ rfl
    have c36 := Hd.co (show Hd.Fa K (fun A => PySem.W.codeIn A (.ref 555) "spelled_letters") from c.ck 144 _ rfl)
    have k36 := Hd.kp (show Hd.Fa K (fun A => PySem.W.keepIn A (.ref 556)) from c.ck 145 _ rfl)
    have a37 := Hd.ns (show Hd.Fa K (Hd.cNs mainGlobals "age_of" (some (.ref 563))) from c.ck 146 _ rfl)
    obtain ⟨_, _, _, _, _, _, _, l37⟩ := c.fd 36 _ rfl
    have c37 := Hd.co (show Hd.Fa K (fun A => PySem.W.codeIn A (.ref 562) "age_of") from c.ck 147 _ rfl)
    have k37 := Hd.kp (show Hd.Fa K (fun A => PySem.W.keepIn A (.ref 563)) from c.ck 148 _ rfl)
    have a38 := Hd.ns (show Hd.Fa K (Hd.cNs mainGlobals "birth_home" (some (.ref 570))) from c.ck 149 _ rfl)
    obtain ⟨_, _, _, _, _, _, _, l38⟩ := c.fd 37 _ rfl
    have c38 := Hd.co (show Hd.Fa K (fun A => PySem.W.codeIn A (.ref 569) "birth_home") from c.ck 150 _ rfl)
    have k38 := Hd.kp (show Hd.Fa K (fun A => PySem.W.keepIn A (.ref 570)) from c.ck 151 _ rfl)
    have a39 := Hd.ns (show Hd.Fa K (Hd.cNs mainGlobals "with_birth" (some (.ref 575))) from c.ck 152 _ rfl)
    obtain ⟨_, _, _, _, _, _, _, l39⟩ := c.fd 38 _ rfl
    have c39 := Hd.co (show Hd.Fa K (fun A => PySem.W.codeIn A (.ref 574) "with_birth") from c.ck 153 _ rfl)
    have k39 := Hd.kp (show Hd.Fa K (fun A => PySem.W.keepIn A (.ref 575)) from c.ck 154 _ rfl)
    have a40 := Hd.fi (show Hd.Fa K (Hd.cFi (.ref 774) "put_in" (some (.ref 661))) from c.ck 155 _ rfl)
    have n40 := Hd.isf (show Hd.Fa K (fun A => PySem.W.isFn A (.ref 661)) from c.ck 156 _ rfl)
    obtain ⟨_, _, _, _, _, _, _, l40⟩ := c.fd 39 _ rfl
    have c40 := Hd.co (show Hd.Fa K (fun A => PySem.W.codeIn A (.ref 660) "Grown.put_in") from c.ck 157 _ rfl)
    have k40 := Hd.kp (show Hd.Fa K (fun A => PySem.W.keepIn A (.ref 661)) from c.ck 158 _ rfl)
    have a41 := Hd.fi (show Hd.Fa K (Hd.cFi (.ref 774) "turn_to" (some (.ref 654))) from c.ck 159 _ rfl)
    have n41 := Hd.isf (show Hd.Fa K (fun A => PySem.W.isFn A (.ref 654)) from c.ck 160 _ rfl)
    obtain ⟨_, _, _, _, _, _, _, l41⟩ := c.fd 40 _ rfl
    have c41 := Hd.co (show Hd.Fa K (fun A => PySem.W.codeIn A (.ref 653) "Grown.turn_to") from c.ck 161 _ rfl)
    have k41 := Hd.kp (show Hd.Fa K (fun A => PySem.W.keepIn A (.ref 654)) from c.ck 162 _ rfl)
    have a42 := Hd.fi (show Hd.Fa K (Hd.cFi (.ref 774) "put_all" (some (.ref 675))) from c.ck 163 _ rfl)
    have n42 := Hd.isf (show Hd.Fa K (fun A => PySem.W.isFn A (.ref 675)) from c.ck 164 _ rfl)
    obtain ⟨_, _, _, _, _, _, _, l42⟩ := c.fd 41 _ rfl
    have c42 := Hd.co (show Hd.Fa K (fun A => PySem.W.codeIn A (.ref 674) "Grown.put_all") from c.ck 165 _ rfl)
    have k42 := Hd.kp (show Hd.Fa K (fun A => PySem.W.keepIn A (.ref 675)) from c.ck 166 _ rfl)
    have a43 := Hd.fi (show Hd.Fa K (Hd.cFi (.ref 774) "put" (some (.ref 668))) from c.ck 167 _ rfl)
    have n43 := Hd.isf (show Hd.Fa K (fun A => PySem.W.isFn A (.ref 668)) from c.ck 168 _ rfl)
    obtain ⟨_, _, _, _, _, _, _, l43⟩ := c.fd 42 _ rfl
    have c43 := Hd.co (show Hd.Fa K (fun A => PySem.W.codeIn A (.ref 667) "Grown.put") from c.ck 169 _ rfl)
    have k43 := Hd.kp (show Hd.Fa K (fun A => PySem.W.keepIn A (.ref 668)) from c.ck 170 _ rfl)
    have a44 := Hd.ns (show Hd.Fa K (Hd.cNs mainGlobals "_law_fits" (some (.ref 880))) from c.ck 171 _ rfl)
    obtain ⟨_, _, _, _, _, _, _, l44⟩ := c.fd 43 _ rfl
    have c44 := Hd.co (show Hd.Fa K (fun A => PySem.W.codeIn A (.ref 879) "_law_fits") from c.ck 172 _ rfl)
    have k44 := Hd.kp (show Hd.Fa K (fun A => PySem.W.keepIn A (.ref 880)) from c.ck 173 _ rfl)
    have a45 := Hd.ns (show Hd.Fa K (Hd.cNs mainGlobals "_law_line_at" (some (.ref 887))) from c.ck 174 _ rfl)
    obtain ⟨_, _, _, _, _, _, _, l45⟩ := c.fd 44 _ rfl
    have c45 := Hd.co (show Hd.Fa K (fun A => PySem.W.codeIn A (.ref 886) "_law_line_at") from c.ck 175 _ rfl)
    have k45 := Hd.kp (show Hd.Fa K (fun A => PySem.W.keepIn A (.ref 887)) from c.ck 176 _ rfl)
    have a46 := Hd.ns (show Hd.Fa K (Hd.cNs mainGlobals "_law_word" (some (.ref 894))) from c.ck 177 _ rfl)
    obtain ⟨_, _, _, _, _, _, _, l46⟩ := c.fd 45 _ rfl
    have c46 := Hd.co (show Hd.Fa K (fun A => PySem.W.codeIn A (.ref 893) "_law_word") from c.ck 178 _ rfl)
    have k46 := Hd.kp (show Hd.Fa K (fun A => PySem.W.keepIn A (.ref 894)) from c.ck 179 _ rfl)
    have a47 := Hd.ns (show Hd.Fa K (Hd.cNs mainGlobals "_law_parts" (some (.ref 899))) from c.ck 180 _ rfl)
    obtain ⟨_, _, _, _, _, _, _, l47⟩ := c.fd 46 _ rfl
    have c47 := Hd.co (show Hd.Fa K (fun A => PySem.W.codeIn A (.ref 898) "_law_parts") from c.ck 181 _ rfl)
    have k47 := Hd.kp (show Hd.Fa K (fun A => PySem.W.keepIn A (.ref 899)) from c.ck 182 _ rfl)
    have a48 := Hd.ns (show Hd.Fa K (Hd.cNs mainGlobals "_law_row_gaps" (some (.ref 906))) from c.ck 183 _ rfl)
    obtain ⟨_, _, _, _, _, _, _, l48⟩ := c.fd 47 _ rfl
    have c48 := Hd.co (show Hd.Fa K (fun A => PySem.W.codeIn A (.ref 905) "_law_row_gaps") from c.ck 184 _ rfl)
    have k48 := Hd.kp (show Hd.Fa K (fun A => PySem.W.keepIn A (.ref 906)) from c.ck 185 _ rfl)
    have a49 := Hd.ns (show Hd.Fa K (Hd.cNs mainGlobals "_law_home" (some (.ref 913))) from c.ck 186 _ rfl)
    obtain ⟨_, _, _, _, _, _, _, l49⟩ := c.fd 48 _ rfl
    have c49 := Hd.co (show Hd.Fa K (fun A => PySem.W.codeIn A (.ref 912) "_law_home") from c.ck 187 _ rfl)
    have k49 := Hd.kp (show Hd.Fa K (fun A => PySem.W.keepIn A (.ref 913)) from c.ck 188 _ rfl)
    have a50 := Hd.ns (show Hd.Fa K (Hd.cNs mainGlobals "_law_put" (some (.ref 923))) from c.ck 189 _ rfl)
    obtain ⟨_, _, _, _, _, _, _, l50⟩ := c.fd 49 _ rfl
    have c50 := Hd.co (show Hd.Fa K (fun A => PySem.W.codeIn A (.ref 922) "_law_put") from c.ck 190 _ rfl)
    have k50 := Hd.kp (show Hd.Fa K (fun A => PySem.W.keepIn A (.ref 923)) from c.ck 191 _ rfl)
    have a51 := Hd.ns (show Hd.Fa K (Hd.cNs mainGlobals "_law_take_due" (some (.ref 940))) from c.ck 192 _ rfl)
    obtain ⟨_, _, _, _, _, _, _, l51⟩ := c.fd 50 _ rfl
    have c51 := Hd.co (show Hd.Fa K (fun A => PySem.W.codeIn A (.ref 939) "_law_take_due") from c.ck 193 _ rfl)
    have k51 := Hd.kp (show Hd.Fa K (fun A => PySem.W.keepIn A (.ref 940)) from c.ck 194 _ rfl)
    have a52 := Hd.ns (show Hd.Fa K (Hd.cNs mainGlobals "lowered" (some (.ref 599))) from c.ck 195 _ rfl)
    obtain ⟨_, _, _, _, _, _, _, l52⟩ := c.fd 51 _ rfl
    have c52 := Hd.co (show Hd.Fa K (fun A => PySem.W.codeIn A (.ref 598) "lowered") from c.ck 196 _ rfl)
    have k52 := Hd.kp (show Hd.Fa K (fun A => PySem.W.keepIn A (.ref 599)) from c.ck 197 _ rfl)
    have a53 := Hd.ns (show Hd.Fa K (Hd.cNs mainGlobals "without_birth" (some (.ref 580))) from c.ck 198 _ rfl)
    obtain ⟨_, _, _, _, _, _, _, l53⟩ := c.fd 52 _ rfl
    have c53 := Hd.co (show Hd.Fa K (fun A => PySem.W.codeIn A (.ref 579) "without_birth") from c.ck 199 _ rfl)
    have k53 := Hd.kp (show Hd.Fa K (fun A => PySem.W.keepIn A (.ref 580)) from c.ck 200 _ rfl)
    have a54 := Hd.fi (show Hd.Fa K (Hd.cFi (.ref 774) "take" (some (.ref 680))) from c.ck 201 _ rfl)
    have n54 := Hd.isf (show Hd.Fa K (fun A => PySem.W.isFn A (.ref 680)) from c.ck 202 _ rfl)
    obtain ⟨_, _, _, _, _, _, _, l54⟩ := c.fd 53 _ rfl
    have c54 := Hd.co (show Hd.Fa K (fun A => PySem.W.codeIn A (.ref 679) "Grown.take") from c.ck 203 _ rfl)
    have k54 := Hd.kp (show Hd.Fa K (fun A => PySem.W.keepIn A (.ref 680)) from c.ck 204 _ rfl)
    have a55 := Hd.ns (show Hd.Fa K (Hd.cNs mainGlobals "_law_less" (some (.ref 930))) from c.ck 205 _ rfl)
    obtain ⟨_, _, _, _, _, _, _, l55⟩ := c.fd 54 _ rfl
    have c55 := Hd.co (show Hd.Fa K (fun A => PySem.W.codeIn A (.ref 929) "_law_less") from c.ck 206 _ rfl)
    have k55 := Hd.kp (show Hd.Fa K (fun A => PySem.W.keepIn A (.ref 930)) from c.ck 207 _ rfl)
    have a56 := Hd.ns (show Hd.Fa K (Hd.cNs mainGlobals "_law_taken" (some (.ref 935))) from c.ck 208 _ rfl)
    obtain ⟨_, _, _, _, _, _, _, l56⟩ := c.fd 55 _ rfl
    have c56 := Hd.co (show Hd.Fa K (fun A => PySem.W.codeIn A (.ref 934) "_law_taken") from c.ck 209 _ rfl)
    have k56 := Hd.kp (show Hd.Fa K (fun A => PySem.W.keepIn A (.ref 935)) from c.ck 210 _ rfl)
    have a57 := Hd.ns (show Hd.Fa K (Hd.cNs mainGlobals "_law_try_take" (some (.ref 954))) from c.ck 211 _ rfl)
    obtain ⟨_, _, _, _, _, _, _, l57⟩ := c.fd 56 _ rfl
    have c57 := Hd.co (show Hd.Fa K (fun A => PySem.W.codeIn A (.ref 953) "_law_try_take") from c.ck 212 _ rfl)
    have k57 := Hd.kp (show Hd.Fa K (fun A => PySem.W.keepIn A (.ref 954)) from c.ck 213 _ rfl)
    have a58 := Hd.fi (show Hd.Fa K (Hd.cFi (.ref 774) "births" (some (.ref 708))) from c.ck 214 _ rfl)
    have n58 := Hd.isf (show Hd.Fa K (fun A => PySem.W.isFn A (.ref 708)) from c.ck 215 _ rfl)
    obtain ⟨_, _, _, _, _, _, _, l58⟩ := c.fd 57 _ rfl
    have c58 := Hd.co (show Hd.Fa K (fun A => PySem.W.codeIn A (.ref 707) "Grown.births") from c.ck 216 _ rfl)
    have k58 := Hd.kp (show Hd.Fa K (fun A => PySem.W.keepIn A (.ref 708)) from c.ck 217 _ rfl)
    have a59 := Hd.ns (show Hd.Fa K (Hd.cNs mainGlobals "_law_same" (some (.ref 811))) from c.ck 218 _ rfl)
    obtain ⟨_, _, _, _, _, _, _, l59⟩ := c.fd 58 _ rfl
    have c59 := Hd.co (show Hd.Fa K (fun A => PySem.W.codeIn A (.ref 810) "_law_same") from c.ck 219 _ rfl)
    have k59 := Hd.kp (show Hd.Fa K (fun A => PySem.W.keepIn A (.ref 811)) from c.ck 220 _ rfl)
    have a60 := Hd.ns (show Hd.Fa K (Hd.cNs mainGlobals "columns" (some (.ref 785))) from c.ck 221 _ rfl)
    obtain ⟨_, _, _, _, _, _, _, l60⟩ := c.fd 59 _ rfl
    have c60 := Hd.co (show Hd.Fa K (fun A => PySem.W.codeIn A (.ref 784) "columns") from c.ck 222 _ rfl)
    have k60 := Hd.kp (show Hd.Fa K (fun A => PySem.W.keepIn A (.ref 785)) from c.ck 223 _ rfl)
    have a61 := Hd.ns (show Hd.Fa K (Hd.cNs mainGlobals "law" (some (.ref 961))) from c.ck 224 _ rfl)
    obtain ⟨_, _, _, _, _, _, _, l61⟩ := c.fd 60 _ rfl
    have c61 := Hd.co (show Hd.Fa K (fun A => PySem.W.codeIn A (.ref 960) "law") from c.ck 225 _ rfl)
    have k61 := Hd.kp (show Hd.Fa K (fun A => PySem.W.keepIn A (.ref 961)) from c.ck 226 _ rfl)
    have z_int := Hd.ns (show Hd.Fa K (Hd.cNs mainGlobals "int" none) from c.ck 227 _ rfl)
    have z_list := Hd.ns (show Hd.Fa K (Hd.cNs mainGlobals "list" none) from c.ck 228 _ rfl)
    have z_len := Hd.ns (show Hd.Fa K (Hd.cNs mainGlobals "len" none) from c.ck 229 _ rfl)
    have z_abs := Hd.ns (show Hd.Fa K (Hd.cNs mainGlobals "abs" none) from c.ck 230 _ rfl)
    have z_range := Hd.ns (show Hd.Fa K (Hd.cNs mainGlobals "range" none) from c.ck 231 _ rfl)
    have z_isinstance := Hd.ns (show Hd.Fa K (Hd.cNs mainGlobals "isinstance" none) from c.ck 232 _ rfl)
    have z_str := Hd.ns (show Hd.Fa K (Hd.cNs mainGlobals "str" none) from c.ck 233 _ rfl)
    have z_all := Hd.ns (show Hd.Fa K (Hd.cNs mainGlobals "all" none) from c.ck 234 _ rfl)
    have z_sorted := Hd.ns (show Hd.Fa K (Hd.cNs mainGlobals "sorted" none) from c.ck 235 _ rfl)
    have z_set := Hd.ns (show Hd.Fa K (Hd.cNs mainGlobals "set" none) from c.ck 236 _ rfl)
    have z_tuple := Hd.ns (show Hd.Fa K (Hd.cNs mainGlobals "tuple" none) from c.ck 237 _ rfl)
    have z_enumerate := Hd.ns (show Hd.Fa K (Hd.cNs mainGlobals "enumerate" none) from c.ck 238 _ rfl)
    have z_bool := Hd.ns (show Hd.Fa K (Hd.cNs mainGlobals "bool" none) from c.ck 239 _ rfl)
    have z_max := Hd.ns (show Hd.Fa K (Hd.cNs mainGlobals "max" none) from c.ck 240 _ rfl)
    have z_zip := Hd.ns (show Hd.Fa K (Hd.cNs mainGlobals "zip" none) from c.ck 241 _ rfl)
    obtain ⟨_, q_LOWER⟩ := Hd.nsS (show Hd.Fa K (fun A => Hd.isS (PySem.W.nsIn A mainGlobals "LOWER") "abcdefghijklmnopqrstuvwxyz") from c.ck 242 _ rfl)
    obtain ⟨_, q_UPPER⟩ := Hd.nsS (show Hd.Fa K (fun A => Hd.isS (PySem.W.nsIn A mainGlobals "UPPER") "ABCDEFGHIJKLMNOPQRSTUVWXYZ") from c.ck 243 _ rfl)
    obtain ⟨_, q_MOST_WORD⟩ := Hd.nsI (show Hd.Fa K (fun A => Hd.isI (PySem.W.nsIn A mainGlobals "MOST_WORD") 3) from c.ck 244 _ rfl)
    obtain ⟨_, q_MOST_ROW⟩ := Hd.nsI (show Hd.Fa K (fun A => Hd.isI (PySem.W.nsIn A mainGlobals "MOST_ROW") 16) from c.ck 245 _ rfl)
    have hL : ∃ fd : FuncData, (∀ (s : Shared) (v : Value), BindsTo s fd ⟨[v], []⟩ [("_law_script", v)]) ∧ ∀ base : Heap, K.In base → base.Ns mainGlobals mg → L2.FnOk PySem.Challenge.rw_gapborn_k71_columns_of_births.prog w K mg base L2.CX0 10 fa fd ["_law_script"] (G.spLaw K) := by
      refine' G.all_mk KX Gh hmg x0_at x0_pg x0_hd x0_po x0_sa x0_na_kinds x0_na_comers x0_na_own_lines x0_rd x0_ga x0_cv_MOST x0_mk x0_kp x50_at x50_pg x50_hd x50_po x50_sa x50_na_book x50_na_start x50_na_busy x50_na_own_limit x50_na_letters x50_na_own_births x50_na_past x50_na_ahead x50_rd x50_ga x50_cv_MOST x50_mk x50_kp a1 l1 c1 k1 a2 l2 c2 k2 a3 l3 c3 k3 a4 l4 c4 k4 a5 l5 c5 k5 a6 l6 c6 k6 a7 l7 c7 k7 a8 l8 c8 k8 a9 l9 c9 k9 a10 l10 c10 k10 a11 l11 c11 k11 a12 l12 c12 k12 a13 l13 c13 k13 a14 l14 c14 k14 a15 l15 c15 k15 a16 l16 c16 k16 a17 l17 c17 k17 a18 l18 c18 k18 a19 n19 l19 c19 k19 a20 n20 l20 c20 k20 a21 l21 c21 k21 a22 l22 c22 k22 a23 l23 c23 k23 a24 l24 c24 k24 a25 l25 c25 k25 a26 l26 c26 k26 a27 l27 c27 k27 a28 n28 l28 kk28_0 lt28 c28 k28 a29 l29 c29 k29 a30 l30 c30 k30 a31 l31 c31 k31 a32 l32 c32 k32 a33 n33 l33 c33 k33 a34 n34 l34 c34 k34 a35 l35 c35 k35 a36 l36 c36 k36 a37 l37 c37 k37 a38 l38 c38 k38 a39 l39 c39 k39 a40 n40 l40 c40 k40 a41 n41 l41 c41 k41 a42 n42 l42 c42 k42 a43 n43 l43 c43 k43 a44 l44 c44 k44 a45 l45 c45 k45 a46 l46 c46 k46 a47 l47 c47 k47 a48 l48 c48 k48 a49 l49 c49 k49 a50 l50 c50 k50 a51 l51 c51 k51 a52 l52 c52 k52 a53 l53 c53 k53 a54 n54 l54 c54 k54 a55 l55 c55 k55 a56 l56 c56 k56 a57 l57 c57 k57 a58 n58 l58 c58 k58 a59 l59 c59 k59 a60 l60 c60 k60 a61 l61 c61 k61 z_int z_list z_len z_abs z_range z_isinstance z_str z_all z_sorted z_set z_tuple z_enumerate z_bool z_max z_zip q_LOWER q_UPPER q_MOST_WORD q_MOST_ROW
  
    obtain ⟨fd, hb, hF⟩ := hL
    exact ⟨K, fd, G.spLaw K, KX, hb, fun H a ns hl _ hS => ⟨a, ns, rfl, hS, hl, fun _ => rfl⟩, hF⟩
#print axioms PySem.Challenge.cw_gapborn_k71_columns_of_births_holds
