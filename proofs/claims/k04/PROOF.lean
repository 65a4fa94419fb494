import PyProof.Rows.All
import Wide.All
import OpenK.AllK
import Wide.FinOn
import HandS.ForMost
import HandS.ForExc
import HandS.IsInst
import HandS.Zip
import HandS.Wide
import HandS.FStr
import HandS.Property
import HandS.Defaults
import HandS.OwnEq
import HandS.ExcInit
import HandS.Lambda
import KE.KOpsOwn
import KE.KCallOwn
import KE.KFmtOwn
import HandS.Style
import PyProof.FactsAll.object_2
import HandS.More
import HandS.NoneIn
import HandS.Text
import HandS.Iter
import HandS.TupAny
import HandS.Deep
import HandS.Conv
import HandS.Comp
import HandS.Star
import HandS.SortInts
import HandS.ClsMeth
import KE.KExcInit
import KE.KExcSuper
import KE.KSuper
import HandS.ExcOwn
import HandS.ExcField
import KE.KTryMore
import HandS.ExcValue
import HandS.HotCalls
import HandS.EndTab
import HandS.Head0
import HandS.Head1
import HandS.Head2
import HandS.HeadHook1
import HandS.HeadHook2
import PySem.Challenge.RW_bothgreen_k04_sums_and_order_of_ratios
set_option Elab.async false
set_option linter.all false
set_option maxRecDepth 100000
/-! A layer of pure values over HandS: what a piece of code computes is a function upon data; the abstract heap is out of sight. -/
namespace DL
open PySem PySem.Spec PyProof.Rows L2
/-- a lambda's text; ps: its parameters, dds: their defaults (numbers), free: the names that it takes from around -/
structure LamT where
  qual : Str
  params : Arguments
  body : Expr
  scope : Scope
  ps : List Str
  dds : List Int
  free : List Str
/-- the lambdas of a text, by number; the tables of code objects that their making writes (with the name that the code objects bear) -/
class LamTab where
  tab : Nat → LamT
  tbls : PySem.W.Frag → List (Addr × Str)
variable [LamTab]
/-- just this object stands at b -/
def pinO (b : Addr) (o : Obj) : HO := .ext fun h => h.get? b = some o
/-- an exception stands at a: its class, its fields -/
def XobAt (F : Hp) (C a : Addr) (vs : List (Str × V)) : Prop := ∃ (oe : Obj) (dx : Addr), F a = some (pinO a oe) ∧ oe.cls = .ref C ∧ oe.dict = some dx ∧ (∃ w, oe.data = .fields w) ∧ F dx = some (.xd vs)
/-- a lambda's object: its text, its cells g, its default values -/
def LamO (t : LamT) (g : List (Str × Addr)) (dV : Value) (c : Addr) (o : Obj) : Prop := ∃ (pm ctv : Value), o = { cls := .type "function", data := .func { name := "<lambda>", qualname := t.qual, params := t.params, body := .expr t.body, scope := t.scope, globals := mainGlobals, closure := g, defaults := dV, kwdefaults := .none, doc := .none, pyModule := pm, annotations := none, code := .ref c, closureTuple := ctv, builtins := builtinsNs } }
def LamD (F : Hp) (t : LamT) (dV : Value) : Prop := (t.dds = [] ∧ dV = .none) ∨ ∃ (T : Addr) (us : List Value), dV = .ref T ∧ F T = some (pinO T { cls := .type "tuple", data := .seq us.toArray }) ∧ Vals (t.dds.map V.int) us
/-- a lambda's object stands at a -/
def LamAt (F : Hp) (t : LamT) (g : List (Str × Addr)) (a : Addr) : Prop := ∃ (o : Obj) (dV : Value) (c : Addr), F a = some (pinO a o) ∧ LamO t g dV c o ∧ LamD F t dV ∧ F c = some (LamX.CodeO c t.qual) ∧ (∀ y z c, g.lookup y = some c → g.lookup z = some c → y = z) ∧ (∀ y ∈ t.scope.names, y.2 = .free → ∃ c, g.lookup y.1 = some c) ∧ ∀ y c, g.lookup y = some c → y ∈ t.free
/-- the cells g bear vs -/
def CelAt (F : Hp) (names : List Str) (g : List (Str × Addr)) (vs : List V) : Prop := ∀ (i : Nat) (y : Str) (v : V), names[i]? = some y → vs[i]? = some v → ∃ (c : Addr) (oc : Obj) (u : Value), g.lookup y = some c ∧ F c = some (pinO c oc) ∧ oc.data = .cell (some u) ∧ RelV v u

/-- a class: where it stands, its attributes' names in order -/
structure Kl where
  a : Addr
  ns : List Str
  deriving DecidableEq
/-- data: what a value means. loc n: the n-th mutable object of the store; val: any other value by itself; xob: an exception (as a value); lam: a lambda of this frame, g its cells; clo: a lambda handed on, with the values of its free names -/
inductive D where
  | non | bl (b : Bool) | int (i : Int) | str (x : Str)
  | tup (ds : List D) | lst (ds : List D)
  | obj (c : Kl) (ds : List D)
  | loc (n : Nat)
  | val (v : V)
  | xob (c : Kl) (ds : List D)
  | lam (k : Nat) (g : List (Str × Addr))
  | clo (k : Nat) (ds : List D)

mutual
inductive Rep (K : PySem.W.Frag) (ι : List Addr) (F : Hp) : D → V → Prop
  | non : Rep K ι F .non .non
  | bl (b : Bool) : Rep K ι F (.bl b) (.bl b)
  | int (i : Int) : Rep K ι F (.int i) (.int i)
  | str (x : Str) : Rep K ι F (.str x) (.str x)
  | tup {ds : List D} {a : Addr} {xs : List V} : SqT K F a xs → Reps K ι F ds xs → Rep K ι F (.tup ds) (.ref a)
  | lst {ds : List D} {a : Addr} {xs : List V} : SqL K F a xs → Reps K ι F ds xs → Rep K ι F (.lst ds) (.ref a)
  | obj {c : Kl} {ds : List D} {a dx : Addr} {vs : List (Str × V)} : F a = some (.ins c.a dx vs) → vs.map (·.1) = c.ns → Reps K ι F ds (vs.map (·.2)) → Rep K ι F (.obj c ds) (.ref a)
  | loc {n : Nat} {a : Addr} : ι[n]? = some a → Rep K ι F (.loc n) (.ref a)
  | val (v : V) : Rep K ι F (.val v) v
  | xob {c : Kl} {ds : List D} {a : Addr} {vs : List (Str × V)} : XobAt F c.a a vs → vs.map (·.1) = c.ns → Reps K ι F ds (vs.map (·.2)) → Rep K ι F (.xob c ds) (.ref a)
  | lam {k : Nat} {g : List (Str × Addr)} {a : Addr} : LamAt F (LamTab.tab k) g a → Rep K ι F (.lam k g) (.ref a)
  | clo {k : Nat} {ds : List D} {g : List (Str × Addr)} {a : Addr} {vs : List V} : LamAt F (LamTab.tab k) g a → CelAt F (LamTab.tab k).free g vs → Reps K ι F ds vs → Rep K ι F (.clo k ds) (.ref a)
inductive Reps (K : PySem.W.Frag) (ι : List Addr) (F : Hp) : List D → List V → Prop
  | nil : Reps K ι F [] []
  | cons {d : D} {v : V} {ds : List D} {vs : List V} : Rep K ι F d v → Reps K ι F ds vs → Reps K ι F (d :: ds) (v :: vs)
inductive RepF (K : PySem.W.Frag) (ι : List Addr) (F : Hp) : List (Str × D) → List (Str × V) → Prop
  | nil : RepF K ι F [] []
  | cons {f : Str} {d : D} {v : V} {fs : List (Str × D)} {vs : List (Str × V)} : Rep K ι F d v → RepF K ι F fs vs → RepF K ι F ((f, d) :: fs) ((f, v) :: vs)
end

/-- all that stood stands -/
def Ext (H H' : Hp) : Prop := ∀ a o, H a = some o → H' a = some o
theorem Ext.refl (H : Hp) : Ext H H := fun _ _ h => h
theorem Ext.trans {H H1 H2 : Hp} (a : Ext H H1) (b : Ext H1 H2) : Ext H H2 := fun c o h => b c o (a c o h)
theorem SqL.ext' {K : PySem.W.Frag} {H H' : Hp} {a : Addr} {xs : List V} (h : SqL K H a xs) (e : Ext H H') : SqL K H' a xs := by
  rcases h with (h | ⟨o, h⟩) | h
  · exact .inl (.inl (e _ _ h))
  · exact .inl (.inr ⟨o, e _ _ h⟩)
  · exact .inr h
theorem SqT.ext' {K : PySem.W.Frag} {H H' : Hp} {a : Addr} {xs : List V} (h : SqT K H a xs) (e : Ext H H') : SqT K H' a xs := by
  rcases h with (h | ⟨o, h⟩) | h
  · exact .inl (.inl (e _ _ h))
  · exact .inl (.inr ⟨o, e _ _ h⟩)
  · exact .inr h

theorem XobAt.ext {F F' : Hp} {C a : Addr} {vs : List (Str × V)} (h : XobAt F C a vs) (e : Ext F F') : XobAt F' C a vs := by
  obtain ⟨oe, dx, h1, h2, h3, h4, h5⟩ := h
  exact ⟨oe, dx, e _ _ h1, h2, h3, h4, e _ _ h5⟩
theorem LamAt.ext {F F' : Hp} {t : LamT} {g : List (Str × Addr)} {a : Addr} (h : LamAt F t g a) (e : Ext F F') : LamAt F' t g a := by
  obtain ⟨o, dV, c, h1, h2, h3, h4, h5⟩ := h
  refine ⟨o, dV, c, e _ _ h1, h2, ?_, e _ _ h4, h5⟩
  rcases h3 with h3 | ⟨T, us, k1, k2, k3⟩
  · exact .inl h3
  · exact .inr ⟨T, us, k1, e _ _ k2, k3⟩
theorem CelAt.ext {F F' : Hp} {names : List Str} {g : List (Str × Addr)} {vs : List V} (h : CelAt F names g vs) (e : Ext F F') : CelAt F' names g vs := fun i y v h1 h2 =>
  let ⟨c, oc, u, k1, k2, k3⟩ := h i y v h1 h2
  ⟨c, oc, u, k1, e _ _ k2, k3⟩
section
variable {K : PySem.W.Frag} {ι ι' : List Addr} {F F' : Hp}
theorem pre_get {ι ι' : List Addr} (hp : ι <+: ι') {n : Nat} {a : Addr} (h : ι[n]? = some a) : ι'[n]? = some a := by
  obtain ⟨t, rfl⟩ := hp
  rw [List.getElem?_append_left (List.getElem?_eq_some_iff.mp h).1]
  exact h
mutual
theorem Rep.mono (hp : ι <+: ι') (e : Ext F F') : ∀ {d : D} {v : V}, Rep K ι F d v → Rep K ι' F' d v
  | _, _, .non => .non
  | _, _, .bl b => .bl b
  | _, _, .int i => .int i
  | _, _, .str x => .str x
  | _, _, .tup h r => .tup (SqT.ext' h e) (Reps.mono hp e r)
  | _, _, .lst h r => .lst (SqL.ext' h e) (Reps.mono hp e r)
  | _, _, .obj h n r => .obj (e _ _ h) n (Reps.mono hp e r)
  | _, _, .loc h => .loc (pre_get hp h)
  | _, _, .val v => .val v
  | _, _, .xob h n r => .xob (h.ext e) n (Reps.mono hp e r)
  | _, _, .lam h => .lam (h.ext e)
  | _, _, .clo h h2 r => .clo (h.ext e) (h2.ext e) (Reps.mono hp e r)
theorem Reps.mono (hp : ι <+: ι') (e : Ext F F') : ∀ {ds : List D} {vs : List V}, Reps K ι F ds vs → Reps K ι' F' ds vs
  | _, _, .nil => .nil
  | _, _, .cons h r => .cons (Rep.mono hp e h) (Reps.mono hp e r)
theorem RepF.mono (hp : ι <+: ι') (e : Ext F F') : ∀ {ds : List (Str × D)} {vs : List (Str × V)}, RepF K ι F ds vs → RepF K ι' F' ds vs
  | _, _, .nil => .nil
  | _, _, .cons h r => .cons (Rep.mono hp e h) (RepF.mono hp e r)
end
theorem Reps.len : ∀ {ds : List D} {vs : List V}, Reps K ι F ds vs → ds.length = vs.length
  | _, _, .nil => rfl
  | _, _, .cons _ r => congrArg Nat.succ (Reps.len r)
theorem Reps.get : ∀ {ds : List D} {vs : List V} {i : Nat} {d : D}, Reps K ι F ds vs → ds[i]? = some d → ∃ v, vs[i]? = some v ∧ Rep K ι F d v
  | _, _, _, _, .nil, e => by simp at e
  | _, _, 0, _, .cons h r, e => by simp at e; subst e; exact ⟨_, rfl, h⟩
  | _, _, i + 1, d, .cons h r, e => by
    obtain ⟨v, h1, h2⟩ := Reps.get (i := i) (d := d) r (by simpa using e)
    exact ⟨v, by simpa using h1, h2⟩
theorem Reps.getV : ∀ {ds : List D} {vs : List V} {i : Nat} {v : V}, Reps K ι F ds vs → vs[i]? = some v → ∃ d, ds[i]? = some d ∧ Rep K ι F d v
  | _, _, _, _, .nil, e => by simp at e
  | _, _, 0, _, .cons h r, e => by simp at e; subst e; exact ⟨_, rfl, h⟩
  | _, _, i + 1, d, .cons h r, e => by
    obtain ⟨v, h1, h2⟩ := Reps.getV (i := i) (v := d) r (by simpa using e)
    exact ⟨v, by simpa using h1, h2⟩
theorem Reps.append : ∀ {ds es : List D} {vs us : List V}, Reps K ι F ds vs → Reps K ι F es us → Reps K ι F (ds ++ es) (vs ++ us)
  | _, _, _, _, .nil, s => s
  | _, _, _, _, .cons h r, s => .cons h (Reps.append r s)
theorem Reps.take : ∀ {ds : List D} {vs : List V} (n : Nat), Reps K ι F ds vs → Reps K ι F (ds.take n) (vs.take n)
  | _, _, 0, _ => .nil
  | _, _, _ + 1, .nil => .nil
  | _, _, n + 1, .cons h r => .cons h (Reps.take n r)
theorem Reps.drop : ∀ {ds : List D} {vs : List V} (n : Nat), Reps K ι F ds vs → Reps K ι F (ds.drop n) (vs.drop n)
  | _, _, 0, r => r
  | _, _, _ + 1, .nil => .nil
  | _, _, n + 1, .cons _ r => Reps.drop n r
theorem Reps.set {d : D} {v : V} (h : Rep K ι F d v) : ∀ {ds : List D} {vs : List V} (i : Nat), Reps K ι F ds vs → Reps K ι F (ds.set i d) (vs.set i v)
  | _, _, _, .nil => .nil
  | _, _, 0, .cons _ r => .cons h r
  | _, _, i + 1, .cons q r => .cons q (Reps.set h i r)
theorem Reps.eraseIdx : ∀ {ds : List D} {vs : List V} (i : Nat), Reps K ι F ds vs → Reps K ι F (ds.eraseIdx i) (vs.eraseIdx i)
  | _, _, _, .nil => .nil
  | _, _, 0, .cons _ r => r
  | _, _, i + 1, .cons q r => .cons q (Reps.eraseIdx i r)
theorem RepF.get : ∀ {fs : List (Str × D)} {vs : List (Str × V)} {f : Str} {d : D}, RepF K ι F fs vs → fs.lookup f = some d → ∃ v, vs.lookup f = some v ∧ Rep K ι F d v
  | _, _, _, _, .nil, e => by simp at e
  | _, _, f, d, .cons (f := g) h r, e => by
    rw [List.lookup_cons] at e ⊢
    cases hb : f == g with
    | true => rw [hb] at e; cases e; exact ⟨_, rfl, h⟩
    | false => rw [hb] at e; exact RepF.get r e
theorem RepF.none : ∀ {fs : List (Str × D)} {vs : List (Str × V)} {f : Str}, RepF K ι F fs vs → fs.lookup f = .none → vs.lookup f = .none
  | _, _, _, .nil, e => rfl
  | _, _, f, .cons (f := g) h r, e => by
    rw [List.lookup_cons] at e ⊢
    cases hb : f == g with
    | true => rw [hb] at e; cases e
    | false => rw [hb] at e; exact RepF.none r e
theorem RepF.len : ∀ {fs : List (Str × D)} {vs : List (Str × V)}, RepF K ι F fs vs → fs.length = vs.length
  | _, _, .nil => rfl
  | _, _, .cons _ r => congrArg Nat.succ (RepF.len r)
/-- the twin of putF -/
def putD (f : Str) (d : D) : List (Str × D) → List (Str × D)
  | [] => [(f, d)]
  | (g, e) :: r => if g = f then (g, d) :: r else (g, e) :: putD f d r
end
end DL

namespace DL
open PySem PySem.Spec PyProof.Rows L2
variable [LamTab]

/-- a mutable object of the store -/
inductive Mo where
  | lst (ds : List D)
  | ins (C : Addr) (fs : List (Str × D))
  | exo (C : Addr) (d : Option Nat)
  | exd (fs : List (Str × D))
  | dik (kvs : List (Key × D))
  | dit (kvs : List (List Key × D))
abbrev Mu := List Mo
abbrev En := List (Option D)
/-- a state of the world: the store's addresses, what never changes from now on, all that is tracked -/
structure Wd where
  i : List Addr
  F : Hp
  H : Hp
def MoOk (K : PySem.W.Frag) (S : Wd) (a : Addr) : Mo → Prop
  | .lst ds => ∃ xs, S.H a = some (.lst xs) ∧ Reps K S.i S.F ds xs
  | .ins C fs => ∃ dx vs, S.H a = some (.ins C dx vs) ∧ RepF K S.i S.F fs vs
  | .exo C none => S.H a = some (exo a C none)
  | .exo C (some k) => ∃ dx, S.i[k]? = some dx ∧ S.H a = some (exo a C (some dx))
  | .exd fs => ∃ vs, S.H a = some (exd a vs) ∧ RepF K S.i S.F fs vs
  | .dik kvs => ∃ vs : List (Key × V), S.H a = some (.dK vs) ∧ kvs.map (·.1) = vs.map (·.1) ∧ Reps K S.i S.F (kvs.map (·.2)) (vs.map (·.2))
  | .dit kvs => ∃ vs : List (List Key × V), S.H a = some (.dT vs) ∧ kvs.map (·.1) = vs.map (·.1) ∧ Reps K S.i S.F (kvs.map (·.2)) (vs.map (·.2))
/-- the tables of code objects, each kept apart -/
def TbOk (K : PySem.W.Frag) (S : Wd) : Prop := ∀ p ∈ LamTab.tbls K, ∃ ps : Array Value, S.H p.1 = some (.tbl ps) ∧ S.F p.1 = none ∧ p.1 ∉ S.i ∧ TriplesOk ps.toList ∧ ∀ (pos : Pos) (cv : Value), codeAmong pos ps.toList = some cv → ∃ c, cv = .ref c ∧ S.F c = some (LamX.CodeO c p.2)
structure Sta (K : PySem.W.Frag) (S : Wd) (m : Mu) : Prop where
  nd : S.i.Nodup
  len : S.i.length = m.length
  sub : Ext S.F S.H
  dis : ∀ a ∈ S.i, S.F a = none
  tr : ∀ a ∈ S.i, ∃ o, S.H a = some o
  ok : ∀ (n : Nat) a o, S.i[n]? = some a → m[n]? = some o → MoOk K S a o
  tb : TbOk K S
structure Stp (S T : Wd) : Prop where
  pre : S.i <+: T.i
  ext : Ext S.F T.F
  frame : ∀ a o, (∀ ps, o ≠ .tbl ps) → S.H a = some o → S.F a = none → a ∉ S.i → T.H a = some o ∧ T.F a = none ∧ a ∉ T.i
  old : ∀ a, T.H a = none → S.H a = none
theorem upd_none {H : Hp} {p a : Addr} {o : HO} (h : upd H p o a = none) : H a = none := by
  by_cases e : a = p
  · subst e; rw [upd_same] at h; cases h
  · rw [upd_ne e] at h; exact h
theorem Stp.refl (S : Wd) : Stp S S := ⟨List.prefix_refl _, Ext.refl _, fun _ _ _ h1 h2 h3 => ⟨h1, h2, h3⟩, fun _ h => h⟩
theorem Stp.trans {S T U : Wd} (a : Stp S T) (b : Stp T U) : Stp S U := ⟨a.pre.trans b.pre, a.ext.trans b.ext, fun c o hn h1 h2 h3 =>
  let ⟨k1, k2, k3⟩ := a.frame c o hn h1 h2 h3
  b.frame c o hn k1 k2 k3, fun c h => a.old c (b.old c h)⟩
theorem Rep.stp {K : PySem.W.Frag} {S T : Wd} (s : Stp S T) {d : D} {v : V} (r : Rep K S.i S.F d v) : Rep K T.i T.F d v := r.mono s.pre s.ext
theorem Reps.stp {K : PySem.W.Frag} {S T : Wd} (s : Stp S T) {d : List D} {v : List V} (r : Reps K S.i S.F d v) : Reps K T.i T.F d v := r.mono s.pre s.ext
theorem RepF.stp {K : PySem.W.Frag} {S T : Wd} (s : Stp S T) {d : List (Str × D)} {v : List (Str × V)} (r : RepF K S.i S.F d v) : RepF K T.i T.F d v := r.mono s.pre s.ext
theorem Sta.fresh {K : PySem.W.Frag} {S : Wd} {m : Mu} (sa : Sta K S m) {p : Addr} (h : S.H p = none) : S.F p = none ∧ p ∉ S.i := by
  constructor
  · cases q : S.F p with
    | none => rfl
    | some o => rw [sa.sub p o q] at h; cases h
  · intro hp
    obtain ⟨o, e⟩ := sa.tr p hp
    rw [h] at e; cases e
/-- a new object that stays as it is -/
def Wd.new (S : Wd) (p : Addr) (o : HO) : Wd := ⟨S.i, upd S.F p o, upd S.H p o⟩
theorem Ext.updNew {H : Hp} {p : Addr} {o : HO} (h : H p = none) : Ext H (upd H p o) := fun a u e => by rw [upd_ne (ne_of_none e h)]; exact e
theorem Stp.new {K : PySem.W.Frag} {S : Wd} {m : Mu} (sa : Sta K S m) {p : Addr} {o : HO} (h : S.H p = none) : Stp S (S.new p o) := by
  refine ⟨List.prefix_refl _, Ext.updNew (sa.fresh h).1, fun a u _ h1 h2 h3 => ?_, fun a z => upd_none z⟩
  have ne : a ≠ p := ne_of_none h1 h
  exact ⟨by show upd S.H p o a = _; rw [upd_ne ne]; exact h1, by show upd S.F p o a = _; rw [upd_ne ne]; exact h2, h3⟩
theorem MoOk.stp {K : PySem.W.Frag} {S T : Wd} (s : Stp S T) {a : Addr} {o : Mo} (h : MoOk K S a o) (e : T.H a = S.H a) : MoOk K T a o := by
  cases o with
  | lst ds => obtain ⟨xs, h1, h2⟩ := h; exact ⟨xs, by rw [e]; exact h1, h2.stp s⟩
  | ins C fs => obtain ⟨dx, vs, h1, h2⟩ := h; exact ⟨dx, vs, by rw [e]; exact h1, h2.stp s⟩
  | exo C d =>
    cases d with
    | none => exact (show T.H a = _ from e.trans h)
    | some k => obtain ⟨dx, h1, h2⟩ := h; exact ⟨dx, pre_get s.pre h1, by rw [e]; exact h2⟩
  | exd fs => obtain ⟨vs, h1, h2⟩ := h; exact ⟨vs, by rw [e]; exact h1, h2.stp s⟩
  | dik kvs => obtain ⟨vs, h1, h0, h2⟩ := h; exact ⟨vs, by rw [e]; exact h1, h0, h2.stp s⟩
  | dit kvs => obtain ⟨vs, h1, h0, h2⟩ := h; exact ⟨vs, by rw [e]; exact h1, h0, h2.stp s⟩
theorem Sta.new {K : PySem.W.Frag} {S : Wd} {m : Mu} (sa : Sta K S m) {p : Addr} {o : HO} (h : S.H p = none) : Sta K (S.new p o) m := by
  have st := Stp.new sa (o := o) h
  have f := sa.fresh h
  refine ⟨sa.nd, sa.len, fun a u e => ?_, fun a ha => ?_, fun a ha => ?_, fun n a q h1 h2 => ?_, fun q hq => ?tb⟩
  case tb =>
    obtain ⟨ps, t1, t2, t3, t4, t5⟩ := sa.tb q hq
    have ne : q.1 ≠ p := ne_of_none t1 h
    exact ⟨ps, by show upd S.H p o q.1 = _; rw [upd_ne ne]; exact t1, by show upd S.F p o q.1 = _; rw [upd_ne ne]; exact t2, t3, t4, fun pos cv hc => let ⟨c, c1, c2⟩ := t5 pos cv hc; ⟨c, c1, st.ext _ _ c2⟩⟩
  · show upd S.H p o a = some u
    have e : upd S.F p o a = some u := e
    by_cases hp : a = p
    · subst hp; rw [upd_same] at e ⊢; exact e
    · rw [upd_ne hp] at e ⊢; exact sa.sub a u e
  · have ne : a ≠ p := fun z => f.2 (z ▸ ha)
    show upd S.F p o a = none
    rw [upd_ne ne]; exact sa.dis a ha
  · have ne : a ≠ p := fun z => f.2 (z ▸ ha)
    obtain ⟨u, e⟩ := sa.tr a ha
    exact ⟨u, by show upd S.H p o a = _; rw [upd_ne ne]; exact e⟩
  · have ne : a ≠ p := fun z => f.2 (z ▸ List.mem_of_getElem? h1)
    exact (sa.ok n a q h1 h2).stp st (upd_ne ne)
/-- a new object of the store -/
def Wd.tok (S : Wd) (p : Addr) (o : HO) : Wd := ⟨S.i ++ [p], S.F, upd S.H p o⟩
theorem Stp.tok {K : PySem.W.Frag} {S : Wd} {m : Mu} (sa : Sta K S m) {p : Addr} {o : HO} (h : S.H p = none) : Stp S (S.tok p o) := by
  refine ⟨List.prefix_append _ _, Ext.refl _, fun a u _ h1 h2 h3 => ?_, fun a z => upd_none z⟩
  have ne : a ≠ p := ne_of_none h1 h
  exact ⟨by show upd S.H p o a = _; rw [upd_ne ne]; exact h1, h2, by
    intro z
    rcases List.mem_append.mp z with z | z
    · exact h3 z
    · exact ne (List.mem_singleton.mp z)⟩
theorem Sta.tok {K : PySem.W.Frag} {S : Wd} {m : Mu} (sa : Sta K S m) {p : Addr} {o : HO} (h : S.H p = none) {q : Mo} (hq : MoOk K (S.tok p o) p q) : Sta K (S.tok p o) (m ++ [q]) := by
  have st := Stp.tok sa (o := o) h
  have f := sa.fresh h
  refine ⟨?_, by show (S.i ++ [p]).length = _; simp [sa.len], fun a u e => ?_, fun a ha => ?_, fun a ha => ?_, fun n a u h1 h2 => ?_, fun q hq => ?tb⟩
  case tb =>
    obtain ⟨ps, t1, t2, t3, t4, t5⟩ := sa.tb q hq
    have ne : q.1 ≠ p := ne_of_none t1 h
    exact ⟨ps, by show upd S.H p o q.1 = _; rw [upd_ne ne]; exact t1, t2, by show q.1 ∉ S.i ++ [p]; simp [t3, ne], t4, t5⟩
  · show (S.i ++ [p]).Nodup
    refine List.nodup_append.mpr ⟨sa.nd, by simp, fun a ha b hb => ?_⟩
    have : b = p := List.mem_singleton.mp hb
    subst this
    exact fun z => f.2 (z ▸ ha)
  · have ne : a ≠ p := fun z => by
      have e : S.F a = some u := e
      rw [z, f.1] at e; cases e
    show upd S.H p o a = some u
    rw [upd_ne ne]; exact sa.sub a u e
  · rcases List.mem_append.mp (show a ∈ S.i ++ [p] from ha) with z | z
    · exact sa.dis a z
    · have : a = p := List.mem_singleton.mp z
      subst this; exact f.1
  · show ∃ u, upd S.H p o a = some u
    by_cases hp : a = p
    · subst hp; exact ⟨o, upd_same⟩
    · rcases List.mem_append.mp (show a ∈ S.i ++ [p] from ha) with z | z
      · rw [upd_ne hp]; exact sa.tr a z
      · exact absurd (List.mem_singleton.mp z) hp
  · have h1 : (S.i ++ [p])[n]? = some a := h1
    by_cases hn : n < S.i.length
    · rw [List.getElem?_append_left hn] at h1
      rw [List.getElem?_append_left (by rw [← sa.len]; exact hn)] at h2
      have ne : a ≠ p := fun z => f.2 (z ▸ List.mem_of_getElem? h1)
      exact (sa.ok n a u h1 h2).stp st (upd_ne ne)
    · have hn' : n = S.i.length := by
        have := (List.getElem?_eq_some_iff.mp h1).1
        simp at this; omega
      subst hn'
      rw [List.getElem?_append_right (Nat.le_refl _), Nat.sub_self] at h1
      rw [sa.len, List.getElem?_append_right (Nat.le_refl _), Nat.sub_self] at h2
      simp at h1 h2
      subst h1; subst h2
      exact hq
/-- an object of the store, or a hidden one, is written -/
def Wd.put (S : Wd) (p : Addr) (o : HO) : Wd := ⟨S.i, S.F, upd S.H p o⟩
theorem Sta.put {K : PySem.W.Frag} {S : Wd} {m : Mu} (sa : Sta K S m) {p : Addr} {o : HO} {n : Nat} (h : S.i[n]? = some p) {q : Mo} (hq : MoOk K (S.put p o) p q) : Stp S (S.put p o) ∧ Sta K (S.put p o) (m.set n q) := by
  have hp := List.mem_of_getElem? h
  have st : Stp S (S.put p o) := ⟨List.prefix_refl _, Ext.refl _, fun a u _ h1 h2 h3 => ⟨by
    have ne : a ≠ p := fun z => h3 (z ▸ hp)
    show upd S.H p o a = _; rw [upd_ne ne]; exact h1, h2, h3⟩, fun a z => upd_none z⟩
  refine ⟨st, sa.nd, by show S.i.length = _; simp [sa.len], fun a u e => ?_, sa.dis, fun a ha => ?_, fun k a u h1 h2 => ?_, fun q hq => ?tb⟩
  case tb =>
    obtain ⟨ps, t1, t2, t3, t4, t5⟩ := sa.tb q hq
    have ne : q.1 ≠ p := fun z => t3 (z ▸ hp)
    exact ⟨ps, by show upd S.H p o q.1 = _; rw [upd_ne ne]; exact t1, t2, t3, t4, t5⟩
  · have ne : a ≠ p := fun z => by
      have e : S.F a = some u := e
      rw [z, sa.dis p hp] at e; cases e
    show upd S.H p o a = some u
    rw [upd_ne ne]; exact sa.sub a u e
  · show ∃ u, upd S.H p o a = some u
    by_cases hp : a = p
    · subst hp; exact ⟨o, upd_same⟩
    · rw [upd_ne hp]; exact sa.tr a ha
  · have h1 : S.i[k]? = some a := h1
    by_cases hk : k = n
    · subst hk
      rw [h] at h1; cases h1
      have hl : k < m.length := by rw [← sa.len]; exact (List.getElem?_eq_some_iff.mp h).1
      rw [List.getElem?_set_self hl] at h2; cases h2
      exact hq
    · rw [List.getElem?_set_ne (Ne.symm hk)] at h2
      have ne : a ≠ p := fun z => by
        subst z
        obtain ⟨l1, e1⟩ := List.getElem?_eq_some_iff.mp h1
        obtain ⟨l2, e2⟩ := List.getElem?_eq_some_iff.mp h
        exact hk ((List.getElem_inj sa.nd).mp (e1.trans e2.symm))
      exact (sa.ok k a u h1 h2).stp st (upd_ne ne)
/-- a hidden object is written -/
theorem Sta.hid {K : PySem.W.Frag} {S : Wd} {m : Mu} (sa : Sta K S m) {p : Addr} {o : HO} (h1 : S.F p = none) (h2 : p ∉ S.i) (h3 : ∀ ps, S.H p ≠ some (.tbl ps)) : Sta K (S.put p o) m := by
  refine ⟨sa.nd, sa.len, fun a u e => ?_, sa.dis, fun a ha => ?_, fun k a u e1 e2 => ?_, fun q hq => ?tb⟩
  case tb =>
    obtain ⟨ps, t1, t2, t3, t4, t5⟩ := sa.tb q hq
    have ne : q.1 ≠ p := fun z => h3 ps (z ▸ t1)
    exact ⟨ps, by show upd S.H p o q.1 = _; rw [upd_ne ne]; exact t1, t2, t3, t4, t5⟩
  · have ne : a ≠ p := fun z => by
      have e : S.F a = some u := e
      rw [z, h1] at e; cases e
    show upd S.H p o a = some u
    rw [upd_ne ne]; exact sa.sub a u e
  · have ne : a ≠ p := fun z => h2 (z ▸ ha)
    show ∃ u, upd S.H p o a = some u
    rw [upd_ne ne]; exact sa.tr a ha
  · have ne : a ≠ p := fun z => h2 (z ▸ List.mem_of_getElem? e1)
    have q := sa.ok k a u e1 e2
    cases u with
    | lst ds => obtain ⟨xs, q1, q2⟩ := q; exact ⟨xs, by show upd S.H p o a = _; rw [upd_ne ne]; exact q1, q2⟩
    | ins C fs => obtain ⟨dx, vs, q1, q2⟩ := q; exact ⟨dx, vs, by show upd S.H p o a = _; rw [upd_ne ne]; exact q1, q2⟩
    | exo C d =>
      cases d with
      | none => exact (show upd S.H p o a = _ from (upd_ne ne).trans q)
      | some k => obtain ⟨dx, q1, q2⟩ := q; exact ⟨dx, q1, (show upd S.H p o a = _ from (upd_ne ne).trans q2)⟩
    | exd fs => obtain ⟨vs, q1, q2⟩ := q; exact ⟨vs, by show upd S.H p o a = _; rw [upd_ne ne]; exact q1, q2⟩
    | dik kvs => obtain ⟨vs, q1, q0, q2⟩ := q; exact ⟨vs, by show upd S.H p o a = _; rw [upd_ne ne]; exact q1, q0, q2⟩
    | dit kvs => obtain ⟨vs, q1, q0, q2⟩ := q; exact ⟨vs, by show upd S.H p o a = _; rw [upd_ne ne]; exact q1, q0, q2⟩
/-- a hidden object stays as it is from now on -/
def Wd.keep (S : Wd) (p : Addr) (o : HO) : Wd := ⟨S.i, upd S.F p o, S.H⟩
theorem Sta.keep {K : PySem.W.Frag} {S : Wd} {m : Mu} (sa : Sta K S m) {p : Addr} {o : HO} (h0 : S.H p = some o) (h1 : S.F p = none) (h2 : p ∉ S.i) (h3 : ∀ ps, o ≠ .tbl ps) : Sta K (S.keep p o) m := by
  have ex : Ext S.F (upd S.F p o) := Ext.updNew h1
  refine ⟨sa.nd, sa.len, fun a u e => ?_, fun a ha => ?_, sa.tr, fun k a u e1 e2 => ?_, fun q hq => ?tb⟩
  case tb =>
    obtain ⟨ps, t1, t2, t3, t4, t5⟩ := sa.tb q hq
    have ne : q.1 ≠ p := fun z => h3 ps (Option.some.inj (h0.symm.trans (z ▸ t1)))
    exact ⟨ps, t1, by show upd S.F p o q.1 = _; rw [upd_ne ne]; exact t2, t3, t4, fun pos cv hc => let ⟨c, c1, c2⟩ := t5 pos cv hc; ⟨c, c1, ex _ _ c2⟩⟩
  · have e : upd S.F p o a = some u := e
    by_cases hp : a = p
    · subst hp; rw [upd_same] at e; cases e; exact h0
    · rw [upd_ne hp] at e; exact sa.sub a u e
  · have ne : a ≠ p := fun z => h2 (z ▸ ha)
    show upd S.F p o a = none
    rw [upd_ne ne]; exact sa.dis a ha
  · have q := sa.ok k a u e1 e2
    cases u with
    | lst ds => obtain ⟨xs, q1, q2⟩ := q; exact ⟨xs, q1, q2.mono (List.prefix_refl _) ex⟩
    | ins C fs => obtain ⟨dx, vs, q1, q2⟩ := q; exact ⟨dx, vs, q1, q2.mono (List.prefix_refl _) ex⟩
    | exo C d =>
      cases d with
      | none => exact q
      | some k => exact q
    | exd fs => obtain ⟨vs, q1, q2⟩ := q; exact ⟨vs, q1, q2.mono (List.prefix_refl _) ex⟩
    | dik kvs => obtain ⟨vs, q1, q0, q2⟩ := q; exact ⟨vs, q1, q0, q2.mono (List.prefix_refl _) ex⟩
    | dit kvs => obtain ⟨vs, q1, q0, q2⟩ := q; exact ⟨vs, q1, q0, q2.mono (List.prefix_refl _) ex⟩

/-! ### results -/
inductive Res (α : Type) where
  | stuck
  | ok (a : α) (m : Mu)
  | exc (C : Addr) (fs : List (Str × D)) (m : Mu)
def Res.bind {α β : Type} (r : Res α) (f : α → Mu → Res β) : Res β := match r with
  | .stuck => .stuck
  | .ok a m => f a m
  | .exc C fs m => .exc C fs m
@[simp] theorem Res.bind_ok {α β : Type} (a : α) (m : Mu) (f : α → Mu → Res β) : (Res.ok a m).bind f = f a m := rfl
@[simp] theorem Res.bind_stuck {α β : Type} (f : α → Mu → Res β) : (Res.stuck : Res α).bind f = .stuck := rfl
@[simp] theorem Res.bind_exc {α β : Type} (C : Addr) (fs : List (Str × D)) (m : Mu) (f : α → Mu → Res β) : (Res.exc C fs m : Res α).bind f = .exc C fs m := rfl

section
variable {α β γ δ : Type} {K : PySem.W.Frag} {S T : Wd}
/-- what must hold so that r is the answer -/
def Post (R : Wd → α → β → Prop) (K : PySem.W.Frag) (S : Wd) (r : Res α) (Q : β → Hp → Prop) (W : XK) : Prop := match r with
  | .stuck => False
  | .ok a m => ∀ v T, Stp S T → Sta K T m → R T a v → Q v T.H
  | .exc C fs m => ∀ dd vs T, Stp S T → S.H dd = none → Sta K T m → T.H dd = some (.xd vs) → RepF K T.i T.F fs vs → W (.ref C) (some dd) T.H
variable {R : Wd → α → β → Prop} {R' : Wd → γ → δ → Prop}
theorem Post.step {r : Res α} {Q : β → Hp → Prop} {W : XK} (s : Stp S T) (h : Post R K S r Q W) : Post R K T r Q W := by
  cases r with
  | stuck => exact h
  | ok a m => exact fun v U s1 => h v U (s.trans s1)
  | exc C fs m => exact fun dd vs U s1 hn => h dd vs U (s.trans s1) (s.old dd hn)
theorem Post.imp {r : Res α} {Q Q' : β → Hp → Prop} {W : XK} (h : Post R K S r Q W) (f : ∀ v H, Q v H → Q' v H) : Post R K S r Q' W := by
  cases r with
  | stuck => exact h
  | ok a m => exact fun v U s1 s2 s3 => f _ _ (h v U s1 s2 s3)
  | exc C fs m => exact h
theorem Post.bindI {r : Res α} {f : α → Mu → Res γ} {Q : δ → Hp → Prop} {Q' : β → Hp → Prop} {W : XK} (h : Post R' K S (r.bind f) Q W)
    (g : ∀ a m v T, Stp S T → Sta K T m → R T a v → Post R' K T (f a m) Q W → Q' v T.H) : Post R K S r Q' W := by
  cases r with
  | stuck => exact h
  | ok a m => exact fun v U s1 s2 s3 => g a m v U s1 s2 s3 (Post.step (r := f a m) s1 h)
  | exc C fs m => exact h
/-- the answer is known -/
theorem Post.ok {a : α} {m : Mu} {Q : β → Hp → Prop} {W : XK} {v : β} (h : Post R K S (.ok a m) Q W) (s : Stp S T) (sa : Sta K T m) (r : R T a v) : Q v T.H := h v T s sa r
end
abbrev RD (K : PySem.W.Frag) : Wd → D → V → Prop := fun S d v => Rep K S.i S.F d v
abbrev RL (K : PySem.W.Frag) : Wd → List D → List V → Prop := fun S d v => Reps K S.i S.F d v
abbrev RB : Wd → Bool → Bool → Prop := fun _ a b => a = b
abbrev PostD (K : PySem.W.Frag) (S : Wd) (r : Res D) (Q : VK) (W : XK) : Prop := Post (RD K) K S r Q W
abbrev PostL (K : PySem.W.Frag) (S : Wd) (r : Res (List D)) (Q : List V → Hp → Prop) (W : XK) : Prop := Post (RL K) K S r Q W
abbrev PostB (K : PySem.W.Frag) (S : Wd) (r : Res Bool) (Q : Bool → Hp → Prop) (W : XK) : Prop := Post RB K S r Q W

/-- names and their data -/
def RelE (K : PySem.W.Frag) (S : Wd) (e : En) (σ : L2.St) : Prop := e.length = σ.length ∧ ∀ (i : Nat) d, e[i]? = some (some d) → ∃ v, σ[i]? = some (some v) ∧ Rep K S.i S.F d v
theorem RelE.stp {K : PySem.W.Frag} {S T : Wd} {e : En} {σ : L2.St} (r : RelE K S e σ) (s : Stp S T) : RelE K T e σ := ⟨r.1, fun i d h => let ⟨v, h1, h2⟩ := r.2 i d h; ⟨v, h1, h2.stp s⟩⟩
theorem RelE.set {K : PySem.W.Frag} {S : Wd} {e : En} {σ : L2.St} {d : D} {v : V} (r : RelE K S e σ) (i : Nat) (h : Rep K S.i S.F d v) : RelE K S (e.set i (some d)) (σ.set i (some v)) := by
  refine ⟨by simp [r.1], fun j d' e1 => ?_⟩
  by_cases hj : i = j
  · subst hj
    by_cases hl : i < e.length
    · rw [List.getElem?_set_self hl] at e1
      cases e1
      exact ⟨v, List.getElem?_set_self (by rw [← r.1]; exact hl), h⟩
    · rw [List.getElem?_eq_none (by simpa using hl)] at e1; cases e1
  · rw [List.getElem?_set_ne hj] at e1 ⊢
    exact r.2 j d' e1
def wipeE (e : En) : List Nat → En
  | [] => e
  | v :: vs => (wipeE e vs).set v none
theorem RelE.unset {K : PySem.W.Frag} {S : Wd} {e : En} {σ : L2.St} (r : RelE K S e σ) (i : Nat) : RelE K S (e.set i none) (σ.set i none) := by
  refine ⟨by simp [r.1], fun j d' e1 => ?_⟩
  by_cases hj : i = j
  · subst hj
    by_cases hl : i < e.length
    · rw [List.getElem?_set_self hl] at e1; cases e1
    · rw [List.getElem?_eq_none (by simpa using hl)] at e1; cases e1
  · rw [List.getElem?_set_ne hj] at e1 ⊢
    exact r.2 j d' e1
theorem RelE.wipe {K : PySem.W.Frag} {S : Wd} {e : En} {σ : L2.St} (r : RelE K S e σ) : ∀ vs : List Nat, RelE K S (wipeE e vs) (wipe σ vs)
  | [] => r
  | v :: vs => (RelE.wipe r vs).unset v

inductive RS where
  | stuck
  | nx (e : En) (m : Mu)
  | rt (d : D) (m : Mu)
  | bk (e : En) (m : Mu)
  | ct (e : En) (m : Mu)
  | exc (C : Addr) (fs : List (Str × D)) (e : En) (m : Mu)
def PostS (K : PySem.W.Frag) (S : Wd) (r : RS) (N : Ends) (W : WX) : Prop := match r with
  | .stuck => False
  | .nx e m => ∀ σ T, Stp S T → Sta K T m → RelE K T e σ → N.nx σ T.H
  | .rt d m => ∀ v T, Stp S T → Sta K T m → Rep K T.i T.F d v → N.rt v T.H
  | .bk e m => ∀ σ T, Stp S T → Sta K T m → RelE K T e σ → N.bk σ T.H
  | .ct e m => ∀ σ T, Stp S T → Sta K T m → RelE K T e σ → N.ct σ T.H
  | .exc C fs e m => ∀ dd vs σ T, Stp S T → S.H dd = none → Sta K T m → RelE K T e σ → T.H dd = some (.xd vs) → RepF K T.i T.F fs vs → W (.ref C) (some dd) σ T.H
theorem PostS.step {K : PySem.W.Frag} {S T : Wd} {r : RS} {N : Ends} {W : WX} (s : Stp S T) (h : PostS K S r N W) : PostS K T r N W := by
  cases r with
  | stuck => exact h
  | nx e m => exact fun σ U s1 => h σ U (s.trans s1)
  | rt d m => exact fun v U s1 => h v U (s.trans s1)
  | bk e m => exact fun σ U s1 => h σ U (s.trans s1)
  | ct e m => exact fun σ U s1 => h σ U (s.trans s1)
  | exc C fs e m => exact fun dd vs σ U s1 hn => h dd vs σ U (s.trans s1) (s.old dd hn)

/-! ### judgements -/
/-- this exception may leave X -/
def Fly (X : Cx) (c : Value) (d : Option Addr) (σ : L2.St) (H : Hp) : Prop := Takes X (fun c' d' σ' H' => c' = c ∧ d' = d ∧ σ' = σ ∧ H' = H)
theorem takesFly (X : Cx) : Takes X (Fly X) := fun u s' ⟨a, B, sI, pins, σ, H, cls, d, e, I, nb, up, sky, na, os, ag, w⟩ =>
  w u s' ⟨a, B, sI, pins, σ, H, cls, d, e, I, nb, up, sky, na, os, ag, rfl, rfl, rfl, rfl⟩
theorem Fly.of {X : Cx} {W : WX} (t : Takes X W) {c : Value} {d : Option Addr} {σ : L2.St} {H : Hp} (h : W c d σ H) : Fly X c d σ H := t.imp fun _ _ _ _ ⟨e1, e2, e3, e4⟩ => by subst e1 e2 e3 e4; exact h
def WE (X : Cx) (e : Expr) : TE := fun σ H Q => ∀ (pins : List (Addr × Obj)) (s : Shared), Inv X pins σ H s → wpAny (model X.prog X.w) X.A (eval e X.env) (EP X pins σ Q) X.xe s
def WT (X : Cx) (e : Expr) : TT := fun σ H Q => ∀ (pins : List (Addr × Obj)) (s : Shared), Inv X pins σ H s → wpAny (model X.prog X.w) X.A (isTrue e X.env (eval e X.env)) (TP X pins σ Q) X.xe s
def WW (X : Cx) (e : Expr) : TT := fun σ H Q => ∀ (whole : Sem Value) (pins : List (Addr × Obj)) (s : Shared), Inv X pins σ H s → wpAny (model X.prog X.w) X.A (isTrue e X.env whole) (TP X pins σ Q) X.xe s
def WA (X : Cx) (es : List Expr) : TA := fun σ H Q => ∀ (pos : Pos) (pins : List (Addr × Obj)) (s : Shared), Inv X pins σ H s → wpAny (model X.prog X.w) X.A (spliced (backTo pos (starEach es X.env))) (AP X pins σ Q) X.xe s
def WS (X : Cx) (st : Stmt) : TS := fun N σ H => ∀ (pins : List (Addr × Obj)) (s : Shared), Inv X pins σ H s → wpAny (model X.prog X.w) X.A (exec st X.env) (SP X pins N) X.xe s
def WSs (X : Cx) (st : List Stmt) : TS := fun N σ H => ∀ (pins : List (Addr × Obj)) (s : Shared), Inv X pins σ H s → wpAny (model X.prog X.w) X.A (execs st X.env) (SP X pins N) X.xe s
theorem mxE (X : Cx) (e : Expr) : PE X e (WE X e) := ⟨fun pins s σ H Q I h => h pins s I⟩
theorem mxT (X : Cx) (e : Expr) : PT X e (WT X e) := ⟨fun pins s σ H Q I h => h pins s I⟩
theorem mxW (X : Cx) (e : Expr) : PW X e (WW X e) := ⟨fun wh pins s σ H Q I h => h wh pins s I⟩
theorem mxA (X : Cx) (e : List Expr) : PA X e (WA X e) := ⟨fun pos pins s σ H Q I h => h pos pins s I⟩
theorem mxS (X : Cx) (e : Stmt) : PS X e (WS X e) := ⟨fun pins s σ H Q I h => h pins s I⟩
theorem mxSs (X : Cx) (e : List Stmt) : PSs X e (WSs X e) := ⟨fun pins s σ H Q I h => h pins s I⟩
abbrev DE := En → Mu → Res D
abbrev DT := En → Mu → Res Bool
abbrev DA := En → Mu → Res (List D)
abbrev DS := En → Mu → RS
abbrev DFn := List D → Mu → Res D
def PDE (X : Cx) (e : Expr) (t : DE) : Prop := ∀ S r m σ Q, Sta X.K S m → RelE X.K S r σ → PostD X.K S (t r m) Q (fun c d H => Fly X c d σ H) → WE X e σ S.H Q
def PDT (X : Cx) (e : Expr) (t : DT) : Prop := ∀ S r m σ Q, Sta X.K S m → RelE X.K S r σ → PostB X.K S (t r m) Q (fun c d H => Fly X c d σ H) → WT X e σ S.H Q
def PDW (X : Cx) (e : Expr) (t : DT) : Prop := ∀ S r m σ Q, Sta X.K S m → RelE X.K S r σ → PostB X.K S (t r m) Q (fun c d H => Fly X c d σ H) → WW X e σ S.H Q
def PDA (X : Cx) (e : List Expr) (t : DA) : Prop := ∀ S r m σ Q, Sta X.K S m → RelE X.K S r σ → PostL X.K S (t r m) Q (fun c d H => Fly X c d σ H) → WA X e σ S.H Q
def PDS (X : Cx) (e : Stmt) (t : DS) : Prop := ∀ S r m σ N, Sta X.K S m → RelE X.K S r σ → PostS X.K S (t r m) N (Fly X) → WS X e N σ S.H
def PDSs (X : Cx) (e : List Stmt) (t : DS) : Prop := ∀ S r m σ N, Sta X.K S m → RelE X.K S r σ → PostS X.K S (t r m) N (Fly X) → WSs X e N σ S.H
/-- by a rule of HandS -/
theorem pd_of {X : Cx} {e : Expr} {u : TE} {t : DE} (h : PE X e u) (k : ∀ S r m σ Q, Sta X.K S m → RelE X.K S r σ → PostD X.K S (t r m) Q (fun c d H => Fly X c d σ H) → u σ S.H Q) : PDE X e t :=
  fun S r m σ Q sa re p pins s I => h.run pins s σ S.H Q I (k S r m σ Q sa re p)
theorem pt_of {X : Cx} {e : Expr} {u : TT} {t : DT} (h : PT X e u) (k : ∀ S r m σ Q, Sta X.K S m → RelE X.K S r σ → PostB X.K S (t r m) Q (fun c d H => Fly X c d σ H) → u σ S.H Q) : PDT X e t :=
  fun S r m σ Q sa re p pins s I => h.run pins s σ S.H Q I (k S r m σ Q sa re p)
theorem pa_of {X : Cx} {e : List Expr} {u : TA} {t : DA} (h : PA X e u) (k : ∀ S r m σ Q, Sta X.K S m → RelE X.K S r σ → PostL X.K S (t r m) Q (fun c d H => Fly X c d σ H) → u σ S.H Q) : PDA X e t :=
  fun S r m σ Q sa re p pos pins s I => h.run pos pins s σ S.H Q I (k S r m σ Q sa re p)
theorem ps_of {X : Cx} {e : Stmt} {u : TS} {t : DS} (h : PS X e u) (k : ∀ S r m σ N, Sta X.K S m → RelE X.K S r σ → PostS X.K S (t r m) N (Fly X) → u N σ S.H) : PDS X e t :=
  fun S r m σ N sa re p pins s I => h.run pins s σ S.H N I (k S r m σ N sa re p)
end DL

namespace DL
open PySem PySem.Spec PyProof.Rows L2
variable [LamTab]

/-! ### what is read of data -/
/-- the items of a list -/
def seqL (m : Mu) : D → Option (List D)
  | .lst ds => some ds
  | .loc n => match m[n]? with
    | some (.lst ds) => some ds
    | _ => none
  | _ => none
def seqT : D → Option (List D)
  | .tup ds => some ds
  | _ => none
section
variable {K : PySem.W.Frag} {S T : Wd} {m : Mu}
theorem seqL_ok {d : D} {v : V} {ds : List D} (sa : Sta K S m) (r : Rep K S.i S.F d v) (h : seqL m d = some ds) : ∃ a xs, v = .ref a ∧ SqL K S.H a xs ∧ Reps K S.i S.F ds xs := by
  cases r with
  | lst h1 h2 => cases h; exact ⟨_, _, rfl, SqL.ext' h1 sa.sub, h2⟩
  | @loc n a h1 =>
    unfold seqL at h
    dsimp only at h
    split at h
    · rename_i ds' e
      cases h
      obtain ⟨xs, q1, q2⟩ := sa.ok n a _ h1 e
      exact ⟨a, xs, rfl, .inl (.inl q1), q2⟩
    · cases h
  | _ => cases h
theorem seqT_ok {d : D} {v : V} {ds : List D} (sa : Sta K S m) (r : Rep K S.i S.F d v) (h : seqT d = some ds) : ∃ a xs, v = .ref a ∧ SqT K S.H a xs ∧ Reps K S.i S.F ds xs := by
  cases r with
  | tup h1 h2 => cases h; exact ⟨_, _, rfl, SqT.ext' h1 sa.sub, h2⟩
  | _ => cases h
end
/-- truth, by a table for own classes -/
def dTru (m : Mu) : D → Option Bool
  | .non => some false
  | .bl b => some b
  | .int i => some (i != 0)
  | .str x => if x.length ≤ sizeLine then some ((x.length : Int) != 0) else none
  | .tup ds => some (!ds.isEmpty)
  | .lst ds => some (!ds.isEmpty)
  | .loc n => match m[n]? with
    | some (.lst ds) => some (!ds.isEmpty)
    | _ => none
  | _ => none
theorem isEmpty_reps {K : PySem.W.Frag} {i : List Addr} {F : Hp} {ds : List D} {xs : List V} (r : Reps K i F ds xs) : ds.isEmpty = xs.isEmpty := by cases r <;> rfl
theorem dTru_ok {K : PySem.W.Frag} {S : Wd} {m : Mu} {d : D} {v : V} {b : Bool} (sa : Sta K S m) (r : Rep K S.i S.F d v) (h : dTru m d = some b) : TruV K v S.H b := by
  cases r with
  | non => cases h; rfl
  | bl b => cases h; rfl
  | int i => cases h; rfl
  | str x =>
    unfold dTru at h
    dsimp only at h
    split at h
    · rename_i e; cases h; exact ⟨e, rfl⟩
    · cases h
  | tup h1 h2 => cases h; exact .inr (.inl ⟨_, SqT.ext' h1 sa.sub, by rw [isEmpty_reps h2]⟩)
  | lst h1 h2 => cases h; exact .inl ⟨_, SqL.ext' h1 sa.sub, by rw [isEmpty_reps h2]⟩
  | @loc n a h1 =>
    unfold dTru at h
    dsimp only at h
    split at h
    · rename_i ds' e
      cases h
      obtain ⟨xs, q1, q2⟩ := sa.ok n a _ h1 e
      exact .inl ⟨xs, .inl (.inl q1), by rw [isEmpty_reps q2]⟩
    · cases h
  | _ => cases h

/-! ### names, constants -/
def dVar (i : Nat) : DE := fun e m => match e[i]? with
  | some (some d) => .ok d m
  | _ => .stuck
def dC (d : D) : DE := fun _ m => .ok d m
section
variable {X : Cx}
theorem pd_var (i : Nat) {x : Str} {pos : Pos} (hN : X.N[i]? = some x := by rfl) (hv : Vis X.env.scope x := by first | exact Or.inl rfl | exact Or.inr (Or.inl rfl) | exact Or.inr (Or.inr rfl)) (hd : (x == ("__debug__" : Str)) = false := by decide)
    (hcd : (x == ("__classdict__" : Str)) = false := by decide) : PDE X (.Name x pos) (dVar i) := by
  refine pd_of (pe_var (i := i) hN hv hd hcd) fun S r m σ Q sa re p => ?_
  unfold dVar at p
  split at p
  · rename_i d e
    obtain ⟨v, h1, h2⟩ := re.2 i d e
    exact ⟨v, h1, Post.ok p (Stp.refl S) sa h2⟩
  · exact p.elim
theorem pd_int {i j pos} : PDE X (.Constant (.int i) j pos) (dC (.int i)) := pd_of pe_int fun S r m σ Q sa re p => Post.ok p (Stp.refl S) sa (.int i)
theorem pd_bl {i j pos} : PDE X (.Constant (.bool i) j pos) (dC (.bl i)) := pd_of pe_bl fun S r m σ Q sa re p => Post.ok p (Stp.refl S) sa (.bl i)
theorem pd_non {j pos} : PDE X (.Constant .none j pos) (dC .non) := pd_of pe_non fun S r m σ Q sa re p => Post.ok p (Stp.refl S) sa .non
theorem pd_str {i j pos} : PDE X (.Constant (.str i) j pos) (dC (.str i)) := pd_of pe_str fun S r m σ Q sa re p => Post.ok p (Stp.refl S) sa (.str i)
/-- a global by its value, told as data that hangs on nothing -/
structure RepA (K : PySem.W.Frag) (d : D) (v : V) : Prop where
  to : ∀ (i : List Addr) (F : Hp), Rep K i F d v
theorem RepA.int {K : PySem.W.Frag} (i : Int) : RepA K (.int i) (.int i) := ⟨fun _ _ => .int i⟩
theorem RepA.str {K : PySem.W.Frag} (i : Str) : RepA K (.str i) (.str i) := ⟨fun _ _ => .str i⟩
theorem RepA.val {K : PySem.W.Frag} (i : V) : RepA K (.val i) i := ⟨fun _ _ => .val i⟩
theorem pd_glob {x : Str} {v : V} {d : D} {u : Value} {pos : Pos} (ra : RepA X.K d v) (hm : X.mg x = some u) (r : RelV v u) (hg : Gl X x := by rfl) (hd : (x == ("__debug__" : Str)) = false := by decide) : PDE X (.Name x pos) (dC d) :=
  pd_of (pe_glob hg hm r hd) fun S r m σ Q sa re p => Post.ok p (Stp.refl S) sa (ra.to _ _)
theorem pd_bltn {x : Str} {v : V} {u : Value} {pos : Pos} (hm : X.mg x = none) (hv : bootBuiltins x = some u) (r : RelV v u) (hg : Gl X x := by rfl) (hn : x ≠ "__name__" := by decide) (hd : (x == ("__debug__" : Str)) = false := by decide) : PDE X (.Name x pos) (dC (.val v)) :=
  pd_of (pe_bltn hg hm hv r hn hd) fun S r m σ Q sa re p => Post.ok p (Stp.refl S) sa (.val v)

/-! ### operators -/
abbrev D2 := D → D → Mu → Res D
def dBin (f : D2) (a b : DE) : DE := fun e m => (a e m).bind fun x m1 => (b e m1).bind fun y m2 => f x y m2
/-- an operator by values -/
def OD (X : Cx) (f : Value → Value → Sem Value) (g : D2) : Prop :=
  ∀ (pins : List (Addr × Obj)) (s : Shared) (σ : L2.St) (S : Wd) (m : Mu) (x y : D) (vx vy : V) (u w : Value) (Q : VK), Sta X.K S m → Rep X.K S.i S.F x vx → Rep X.K S.i S.F y vy → Inv X pins σ S.H s → RelV vx u → RelV vy w →
    PostD X.K S (g x y m) Q (fun c d H => Fly X c d σ H) → wpAny (model X.prog X.w) X.A (f u w) (EP X pins σ Q) X.xe s
theorem od_of {f : Value → Value → Sem Value} {g : D2} {r : R2} (ho : OpR X f r)
    (k : ∀ (S : Wd) (m : Mu) (x y : D) (vx vy : V) (Q : VK) (W : XK), Sta X.K S m → Rep X.K S.i S.F x vx → Rep X.K S.i S.F y vy → PostD X.K S (g x y m) Q W → r vx vy S.H Q) : OD X f g :=
  fun pins s σ S m x y vx vy u w Q sa rx ry I hu hw p => ho pins s σ S.H vx vy u w Q I hu hw (k S m x y vx vy Q _ sa rx ry p)
/-- one or the other -/
def orD (f g : D2) : D2 := fun x y m => match f x y m with
  | .stuck => g x y m
  | r => r
theorem od_or {f : Value → Value → Sem Value} {g h : D2} (a : OD X f g) (b : OD X f h) : OD X f (orD g h) := by
  intro pins s σ S m x y vx vy u w Q sa rx ry I hu hw p
  unfold orD at p
  split at p
  · exact b pins s σ S m x y vx vy u w Q sa rx ry I hu hw p
  · exact a pins s σ S m x y vx vy u w Q sa rx ry I hu hw p
variable {a b c : Expr} {ta tb tc : DE} {pos : Pos}
theorem pd_two {f : Value → Value → Sem Value} {g : D2} (ha : PDE X a ta) (hb : PDE X b tb) (ho : OD X f g) {S : Wd} {r : En} {m : Mu} {σ : L2.St} {Q : VK} (sa : Sta X.K S m) (re : RelE X.K S r σ)
    (p : PostD X.K S (dBin g ta tb r m) Q (fun c d H => Fly X c d σ H)) {pins : List (Addr × Obj)} {s : Shared} (I : Inv X pins σ S.H s) :
    wpAny (model X.prog X.w) X.A (eval a X.env) (fun v s₁ => wpAny (model X.prog X.w) X.A (eval b X.env) (fun u s₂ => wpAny (model X.prog X.w) X.A (f v u) (EP X pins σ Q) X.xe s₂) X.xe s₁) X.xe s := by
  refine thn (ha S r m σ _ sa re (Post.bindI p (Q' := fun v H => ∃ d m1 T, H = T.H ∧ Stp S T ∧ Sta X.K T m1 ∧ Rep X.K T.i T.F d v ∧ PostD X.K T ((tb r m1).bind fun y m2 => g d y m2) Q (fun c d H => Fly X c d σ H)) fun d m1 v T st sa1 r1 q => ⟨d, m1, T, rfl, st, sa1, r1, q⟩) pins s I) ?_
  rintro v s1 ⟨x, H1, I1, r1, d, m1, T, rfl, st, sa1, rd, q⟩
  refine thn (hb T r m1 σ _ sa1 (re.stp st) (Post.bindI q (Q' := fun w H => ∃ d' m2 U, H = U.H ∧ Stp T U ∧ Sta X.K U m2 ∧ Rep X.K U.i U.F d' w ∧ PostD X.K U (g d d' m2) Q (fun c d H => Fly X c d σ H)) fun d' m2 v U st sa2 r2 q => ⟨d', m2, U, rfl, st, sa2, r2, q⟩) pins s1 I1) ?_
  rintro u s2 ⟨y, H2, I2, r2, d', m2, U, rfl, st2, sa2, rd2, q2⟩
  exact ho pins s2 σ U m2 d d' x y v u Q sa2 (rd.stp st2) rd2 I2 r1 r2 q2
theorem pd_op {op : Operator} {g : D2} (ho : OD X (binaryOp op) g) (ha : PDE X a ta) (hb : PDE X b tb) : PDE X (.BinOp a op b pos) (dBin g ta tb) :=
  fun S r m σ Q sa re p pins s I => wpAny_BinOp (pd_two ha hb ho sa re p I)
theorem pd_cmp {op : CmpOp} {g : D2} (ho : OD X (compareOp op) g) (ha : PDE X a ta) (hb : PDE X b tb) (hm : behindInMarks op b = false := by first | exact nomark _ | rfl) : PDE X (.Compare a [op] [b] pos) (dBin g ta tb) :=
  fun S r m σ Q sa re p pins s I => wpAny_Compare1 (pd_two ha hb ho sa re p I) hm
/-- a test whose value is a bool -/
def dTst (t : DE) : DT := fun e m => (t e m).bind fun d m => match d with
  | .bl b => .ok b m
  | _ => .stuck
theorem EP.bool {pins : List (Addr × Obj)} {σ : L2.St} {S : Wd} {r : Res D} {Q : Bool → Hp → Prop} {W : XK} (p : PostB X.K S (r.bind fun d m => match d with | .bl b => Res.ok b m | _ => .stuck) Q W) :
    PostD X.K S r (fun v H => ∃ b, v = .bl b ∧ Q b H) W := by
  refine Post.bindI p fun d m v T st sa rd q => ?_
  cases rd with
  | bl b => exact ⟨b, rfl, Post.ok q (Stp.refl T) sa rfl⟩
  | _ => exact q.elim
theorem pdt_cmp {op : CmpOp} {g : D2} (ho : OD X (compareOp op) g) (ha : PDE X a ta) (hb : PDE X b tb) (hm : behindInMarks op b = false := by first | exact nomark _ | rfl) : PDT X (.Compare a [op] [b] pos) (dTst (dBin g ta tb)) := by
  intro S r m σ Q sa re p pins s I
  refine wpAny_isTrue_Compare1 (thn (pd_two ha hb ho sa re (EP.bool (pins := pins) (σ := σ) p) I) fun v s1 h1 => thn h1 fun u s2 h2 => thn h2 fun w s3 ⟨x, H1, I1, r1, b, e, q⟩ => ?_) hm
  subst e
  cases r1
  exact wpAny_truthy_bool ⟨H1, I1, q⟩
/-- any expression by its truth -/
def dTr (t : DE) : DT := fun e m => (t e m).bind fun d m => match dTru m d with
  | some b => .ok b m
  | none => .stuck
theorem pdt_truth (ha : PDE X a ta) (he : ∀ whole, isTrue a X.env whole = (do let v ← whole; standAt a.pos; holding [v] (truthy v)) := by intro _; rfl) : PDT X a (dTr ta) := by
  refine pt_of (pt_truth (mxE X a) he) fun S r m σ Q sa re p => ?_
  refine ha S r m σ _ sa re (Post.bindI p fun d m v T st sa rd q => ?_)
  split at q
  · rename_i b e
    exact ⟨b, dTru_ok sa rd e, Post.ok q (Stp.refl T) sa rfl⟩
  · exact q.elim
/-- the same, where a bool must come -/
theorem pdt_val (ha : PDE X a ta) (he : ∀ whole, isTrue a X.env whole = (do let v ← whole; standAt a.pos; holding [v] (truthy v)) := by intro _; rfl) : PDT X a (dTst ta) := by
  refine pt_of (pt_val (mxE X a) he) fun S r m σ Q sa re p => ?_
  exact ha S r m σ _ sa re (EP.bool (pins := []) (σ := σ) p)
def dNotT (t : DT) : DT := fun e m => (t e m).bind fun b m => .ok (!b) m
theorem pdt_not {t : DT} (ha : PDT X a t) : PDT X (.UnaryOp .Not a pos) (dNotT t) := by
  refine pt_of (pt_not (mxT X a)) fun S r m σ Q sa re p => ?_
  refine ha S r m σ _ sa re (Post.bindI p fun d m v T st sa rd q => ?_)
  have rd : d = v := rd
  subst rd
  exact Post.ok q (Stp.refl T) sa rfl
def dAndT (t u : DT) : DT := fun e m => (t e m).bind fun b m => if b then u e m else .ok false m
def dOrT (t u : DT) : DT := fun e m => (t e m).bind fun b m => if b then .ok true m else u e m
variable {rest : List Expr} {tt tu : DT}
theorem pdw_and1 (ha : PDT X a tt) : PDW X (.BoolOp .And [a] pos) tt := fun S r m σ Q sa re p wh pins s I => (pw_and1 (mxT X a)).run wh pins s σ S.H Q I (ha S r m σ Q sa re p)
theorem pdw_or1 (ha : PDT X a tt) : PDW X (.BoolOp .Or [a] pos) tt := fun S r m σ Q sa re p wh pins s I => (pw_or1 (mxT X a)).run wh pins s σ S.H Q I (ha S r m σ Q sa re p)
theorem pdw_and (ha : PDT X a tt) (hb : PDW X (.BoolOp .And (b :: rest) pos) tu) : PDW X (.BoolOp .And (a :: b :: rest) pos) (dAndT tt tu) := by
  intro S r m σ Q sa re p wh pins s I
  refine (pw_and (mxT X a) (mxW X _)).run wh pins s σ S.H Q I (ha S r m σ _ sa re (Post.bindI p fun d m v T st sa rd q => ?_))
  have rd : d = v := rd
  subst rd
  cases d with
  | true => exact iteT (hb T r m σ Q sa (re.stp st) q)
  | false => exact iteF (Post.ok q (Stp.refl T) sa rfl)
theorem pdw_or (ha : PDT X a tt) (hb : PDW X (.BoolOp .Or (b :: rest) pos) tu) : PDW X (.BoolOp .Or (a :: b :: rest) pos) (dOrT tt tu) := by
  intro S r m σ Q sa re p wh pins s I
  refine (pw_or (mxT X a) (mxW X _)).run wh pins s σ S.H Q I (ha S r m σ _ sa re (Post.bindI p fun d m v T st sa rd q => ?_))
  have rd : d = v := rd
  subst rd
  cases d with
  | true => exact iteT (Post.ok q (Stp.refl T) sa rfl)
  | false => exact iteF (hb T r m σ Q sa (re.stp st) q)
theorem PDW.pt {e : Expr} {t : DT} (h : PDW X e t) : PDT X e t := fun S r m σ Q sa re p pins s I => h S r m σ Q sa re p _ pins s I
/-- and, or, not as values, of bools -/
def dAnd (t u : DE) : DE := fun e m => (t e m).bind fun d m => match d with
  | .bl true => u e m
  | .bl false => .ok (.bl false) m
  | _ => .stuck
def dOr (t u : DE) : DE := fun e m => (t e m).bind fun d m => match d with
  | .bl false => u e m
  | .bl true => .ok (.bl true) m
  | _ => .stuck
theorem pd_one {op} (h : PDE X a ta) : PDE X (.BoolOp op [a] pos) ta := pd_of (pe_one (mxE X a)) h
theorem pd_and (ha : PDE X a ta) (hb : PDE X (.BoolOp .And (b :: rest) pos) tb) : PDE X (.BoolOp .And (a :: b :: rest) pos) (dAnd ta tb) := by
  refine pd_of (pe_and (mxE X a) (mxE X _)) fun S r m σ Q sa re p => ?_
  refine ha S r m σ _ sa re (Post.bindI p fun d m v T st sa rd q => ?_)
  cases rd with
  | bl b =>
    refine ⟨b, rfl, ?_⟩
    cases b with
    | true => exact iteT (hb T r m σ Q sa (re.stp st) q)
    | false => exact iteF (Post.ok q (Stp.refl T) sa (.bl false))
  | _ => exact q.elim
theorem pd_or (ha : PDE X a ta) (hb : PDE X (.BoolOp .Or (b :: rest) pos) tb) : PDE X (.BoolOp .Or (a :: b :: rest) pos) (dOr ta tb) := by
  refine pd_of (pe_or (mxE X a) (mxE X _)) fun S r m σ Q sa re p => ?_
  refine ha S r m σ _ sa re (Post.bindI p fun d m v T st sa rd q => ?_)
  cases rd with
  | bl b =>
    refine ⟨b, rfl, ?_⟩
    cases b with
    | true => exact iteT (Post.ok q (Stp.refl T) sa (.bl true))
    | false => exact iteF (hb T r m σ Q sa (re.stp st) q)
  | _ => exact q.elim
def dNot (t : DE) : DE := fun e m => (t e m).bind fun d m => match d with
  | .bl b => .ok (.bl !b) m
  | _ => .stuck
theorem pd_not (ha : PDE X a ta) : PDE X (.UnaryOp .Not a pos) (dNot ta) := by
  refine pd_of (pe_not (mxE X a)) fun S r m σ Q sa re p => ?_
  refine ha S r m σ _ sa re (Post.bindI p fun d m v T st sa rd q => ?_)
  cases rd with
  | bl b => exact ⟨b, rfl, Post.ok q (Stp.refl T) sa (.bl _)⟩
  | _ => exact q.elim
def dIf (t : DT) (u w : DE) : DE := fun e m => (t e m).bind fun b m => if b then u e m else w e m
theorem pd_if {c : Expr} (hc : PDT X c tt) (ha : PDE X a ta) (hb : PDE X b tb) : PDE X (.IfExp c a b pos) (dIf tt ta tb) := by
  refine pd_of (pe_ifExp (mxT X c) (mxE X a) (mxE X b)) fun S r m σ Q sa re p => ?_
  refine hc S r m σ _ sa re (Post.bindI p fun d m v T st sa rd q => ?_)
  have rd : d = v := rd
  subst rd
  cases d with
  | true => exact iteT (ha T r m σ Q sa (re.stp st) q)
  | false => exact iteF (hb T r m σ Q sa (re.stp st) q)
/-- an expression, then the rest -/
theorem PDE.run {γ δ : Type} {R' : Wd → γ → δ → Prop} {a : Expr} {ta : DE} (ha : PDE X a ta) {S : Wd} {r : En} {m : Mu} {σ : L2.St} {f : D → Mu → Res γ} {Q : δ → Hp → Prop} (sa : Sta X.K S m) (re : RelE X.K S r σ)
    (p : Post R' X.K S ((ta r m).bind f) Q (fun c d H => Fly X c d σ H)) {pins : List (Addr × Obj)} {s : Shared} (I : Inv X pins σ S.H s) :
    wpAny (model X.prog X.w) X.A (eval a X.env) (fun v s1 => ∃ (x : V) (d : D) (m1 : Mu) (T : Wd), Stp S T ∧ Sta X.K T m1 ∧ Rep X.K T.i T.F d x ∧ RelV x v ∧ Inv X pins σ T.H s1 ∧ Post R' X.K T (f d m1) Q (fun c d H => Fly X c d σ H)) X.xe s := by
  refine thn (ha S r m σ _ sa re (Post.bindI p (Q' := fun v H => ∃ d m1 T, H = T.H ∧ Stp S T ∧ Sta X.K T m1 ∧ Rep X.K T.i T.F d v ∧ Post R' X.K T (f d m1) Q (fun c d H => Fly X c d σ H)) fun d m1 v T st sa1 r1 q => ⟨d, m1, T, rfl, st, sa1, r1, q⟩) pins s I) ?_
  rintro v s1 ⟨x, H1, I1, r1, d, m1, T, rfl, st, sa1, rd, q⟩
  exact ⟨x, d, m1, T, st, sa1, rd, r1, I1, q⟩
theorem OD.run {γ δ : Type} {R' : Wd → γ → δ → Prop} {f : Value → Value → Sem Value} {g : D2} (ho : OD X f g) {S : Wd} {m : Mu} {σ : L2.St} {h : D → Mu → Res γ} {Q : δ → Hp → Prop} {x y : D} {vx vy : V} {u w : Value} (sa : Sta X.K S m)
    (rx : Rep X.K S.i S.F x vx) (ry : Rep X.K S.i S.F y vy) (hu : RelV vx u) (hw : RelV vy w)
    (p : Post R' X.K S ((g x y m).bind h) Q (fun c d H => Fly X c d σ H)) {pins : List (Addr × Obj)} {s : Shared} (I : Inv X pins σ S.H s) :
    wpAny (model X.prog X.w) X.A (f u w) (fun v s1 => ∃ (x : V) (d : D) (m1 : Mu) (T : Wd), Stp S T ∧ Sta X.K T m1 ∧ Rep X.K T.i T.F d x ∧ RelV x v ∧ Inv X pins σ T.H s1 ∧ Post R' X.K T (h d m1) Q (fun c d H => Fly X c d σ H)) X.xe s := by
  refine thn (ho pins s σ S m x y vx vy u w _ sa rx ry I hu hw (Post.bindI p (Q' := fun v H => ∃ d m1 T, H = T.H ∧ Stp S T ∧ Sta X.K T m1 ∧ Rep X.K T.i T.F d v ∧ Post R' X.K T (h d m1) Q (fun c d H => Fly X c d σ H)) fun d m1 v T st sa1 r1 q => ⟨d, m1, T, rfl, st, sa1, r1, q⟩)) ?_
  rintro v s1 ⟨x, H1, I1, r1, d, m1, T, rfl, st, sa1, rd, q⟩
  exact ⟨x, d, m1, T, st, sa1, rd, r1, I1, q⟩
/-- a < b < c -/
def dChain (g h : D2) (ta tb tc : DE) : DE := fun e m => (ta e m).bind fun x m1 => (tb e m1).bind fun y m2 => (g x y m2).bind fun z m3 => match z with
  | .bl true => (tc e m3).bind fun w m4 => h y w m4
  | .bl false => .ok (.bl false) m3
  | _ => .stuck
theorem pd_chain {op op' : CmpOp} {g h : D2} (ho : OD X (compareOp op) g) (ho' : OD X (compareOp op') h) (ha : PDE X a ta) (hb : PDE X b tb) (hc : PDE X c tc)
    (hm : lastMarks [op, op'] [b, c] = false := by with_unfolding_all rfl) : PDE X (.Compare a [op, op'] [b, c] pos) (dChain g h ta tb tc) := by
  intro S r m σ Q sa re p pins s I
  refine Compare_chain (thn (ha.run sa re p I) ?_) hm
  rintro v s1 ⟨x, d, m1, T, st, sa1, rd, r1, I1, q⟩
  refine chain_link (thn (hb.run sa1 (re.stp st) q I1) ?_)
  rintro u s2 ⟨y, d', m2, U, st2, sa2, rd2, r2, I2, q2⟩
  refine thn (ho.run sa2 (rd.stp st2) rd2 r1 r2 q2 I2) ?_
  rintro w s3 ⟨z, d3, m3, Y, st3, sa3, rd3, r3, I3, q3⟩
  cases rd3 with
  | bl k =>
    cases r3
    refine wpAny_truthy_bool ?_
    cases k with
    | false => exact ite_ff ⟨.bl false, _, I3, rfl, Post.ok q3 (Stp.refl Y) sa3 (.bl false)⟩
    | true =>
      refine ite_tt (chain_last (thn (hc.run sa3 (((re.stp st).stp st2).stp st3) q3 I3) ?_))
      rintro w' s4 ⟨z', d4, m4, Z, st4, sa4, rd4, r4, I4, q4⟩
      exact ho' pins s4 σ Z m4 d' d4 y z' u w' Q sa4 ((rd2.stp st3).stp st4) rd4 I4 r2 r4 q4
  | _ => exact (show False from q3).elim
end
end DL

namespace DL
open PySem PySem.Spec PyProof.Rows L2
variable [LamTab]

/-! ### argument lists, displays -/
def isStar : Expr → Bool
  | .Starred _ _ => true
  | _ => false
theorem se_cons (e : Expr) (rest : List Expr) (env : Env) (h : isStar e = false) : starEach (e :: rest) env = (false, eval e env) :: starEach rest env := by
  cases e <;> first | rfl | (cases h)
theorem se_any (pos : Pos) (env : Env) : ∀ (es : List Expr), es.all (fun e => !isStar e) = true → (backTo pos (starEach es env)).any (·.1) = false := fun es => by
  induction es with
  | nil => intro _; rfl
  | cons e es ih =>
    intro h
    simp only [List.all_cons, Bool.and_eq_true, Bool.not_eq_true'] at h
    rw [se_cons e es env h.1]
    exact ih h.2
def dNil : DA := fun _ m => .ok [] m
def dCons (t : DE) (u : DA) : DA := fun e m => (t e m).bind fun d m1 => (u e m1).bind fun ds m2 => .ok (d :: ds) m2
section
variable {X : Cx} {a : Expr} {es : List Expr} {ta : DE} {t : DA} {pos : Pos}
theorem pda_nil : PDA X [] dNil := pa_of pa_nil fun S r m σ Q sa re p => Post.ok p (Stp.refl S) sa .nil
theorem pda_cons (ha : PDE X a ta) (hr : PDA X es t) (hs : starEach (a :: es) X.env = (false, eval a X.env) :: starEach es X.env := by exact se_cons _ _ _ rfl) : PDA X (a :: es) (dCons ta t) := by
  refine pa_of (pa_cons (mxE X a) (mxA X es) hs) fun S r m σ Q sa re p => ?_
  refine ha S r m σ _ sa re (Post.bindI p fun d m1 v T st sa1 rd q => ?_)
  refine hr T r m1 σ _ sa1 (re.stp st) (Post.bindI q fun ds m2 vs U st2 sa2 rds q2 => ?_)
  exact Post.ok q2 (Stp.refl U) sa2 (.cons (rd.stp st2) rds)
theorem pda_str {i : Str} {j : Nat} {p : Pos} (hr : PDA X es t) : PDA X (.Constant (.str i) j p :: es) (dCons (dC (.str i)) t) := pda_cons pd_str hr (se_cons _ _ _ rfl)
theorem pda_int {i : Int} {j : Nat} {p : Pos} (hr : PDA X es t) : PDA X (.Constant (.int i) j p :: es) (dCons (dC (.int i)) t) := pda_cons pd_int hr (se_cons _ _ _ rfl)
theorem pda_bl {i : Bool} {j : Nat} {p : Pos} (hr : PDA X es t) : PDA X (.Constant (.bool i) j p :: es) (dCons (dC (.bl i)) t) := pda_cons pd_bl hr (se_cons _ _ _ rfl)
theorem pda_non {j : Nat} {p : Pos} (hr : PDA X es t) : PDA X (.Constant .none j p :: es) (dCons (dC .non) t) := pda_cons pd_non hr (se_cons _ _ _ rfl)
theorem PDA.run {γ δ : Type} {R' : Wd → γ → δ → Prop} (ha : PDA X es t) {S : Wd} {r : En} {m : Mu} {σ : L2.St} {f : List D → Mu → Res γ} {Q : δ → Hp → Prop} (sa : Sta X.K S m) (re : RelE X.K S r σ)
    (p : Post R' X.K S ((t r m).bind f) Q (fun c d H => Fly X c d σ H)) {pins : List (Addr × Obj)} {s : Shared} (I : Inv X pins σ S.H s) (pos : Pos) :
    wpAny (model X.prog X.w) X.A (spliced (backTo pos (starEach es X.env))) (fun us s1 => ∃ (xs : List V) (ds : List D) (m1 : Mu) (T : Wd), Stp S T ∧ Sta X.K T m1 ∧ Reps X.K T.i T.F ds xs ∧ Vals xs us ∧ Inv X pins σ T.H s1 ∧ Post R' X.K T (f ds m1) Q (fun c d H => Fly X c d σ H)) X.xe s := by
  refine thn (ha S r m σ _ sa re (Post.bindI p (Q' := fun v H => ∃ d m1 T, H = T.H ∧ Stp S T ∧ Sta X.K T m1 ∧ Reps X.K T.i T.F d v ∧ Post R' X.K T (f d m1) Q (fun c d H => Fly X c d σ H)) fun d m1 v T st sa1 r1 q => ⟨d, m1, T, rfl, st, sa1, r1, q⟩) pos pins s I) ?_
  rintro us s1 ⟨xs, H1, I1, r1, d, m1, T, rfl, st, sa1, rd, q⟩
  exact ⟨xs, d, m1, T, st, sa1, rd, r1, I1, q⟩
/-- a tuple; a list that is never changed; a list of the store -/
def dTup (t : DA) : DE := fun e m => (t e m).bind fun ds m1 => if ds.length ≤ sizeLine then .ok (.tup ds) m1 else .stuck
def dLst (t : DA) : DE := fun e m => (t e m).bind fun ds m1 => if ds.length ≤ sizeLine then .ok (.lst ds) m1 else .stuck
def dLoc (t : DA) : DE := fun e m => (t e m).bind fun ds m1 => if ds.length ≤ sizeLine then .ok (.loc m1.length) (m1 ++ [.lst ds]) else .stuck
theorem pd_tup {x1} (h : PDA X es t) : PDE X (.Tuple es x1 pos) (dTup t) := by
  refine pd_of (pe_tup (mxA X es)) fun S r m σ Q sa re p => ?_
  refine h S r m σ _ sa re (Post.bindI p fun ds m1 vs T st sa1 rds q => ?_)
  split at q
  · rename_i hl
    refine ⟨by rw [← rds.len]; exact hl, fun p hp => ?_⟩
    have st1 := Stp.new sa1 (o := .tup vs) hp
    exact q (.ref p) (T.new p (.tup vs)) st1 (sa1.new hp) (.tup (.inl (.inl upd_same)) (rds.stp st1))
  · exact q.elim
theorem pd_lst (h : PDA X es t) : PDE X (.List es pos) (dLst t) := by
  refine pd_of (pe_lst (mxA X es)) fun S r m σ Q sa re p => ?_
  refine h S r m σ _ sa re (Post.bindI p fun ds m1 vs T st sa1 rds q => ?_)
  split at q
  · rename_i hl
    refine ⟨by rw [← rds.len]; exact hl, fun p hp => ?_⟩
    have st1 := Stp.new sa1 (o := .lst vs) hp
    exact q (.ref p) (T.new p (.lst vs)) st1 (sa1.new hp) (.lst (.inl (.inl upd_same)) (rds.stp st1))
  · exact q.elim
theorem pd_loc (h : PDA X es t) : PDE X (.List es pos) (dLoc t) := by
  refine pd_of (pe_lst (mxA X es)) fun S r m σ Q sa re p => ?_
  refine h S r m σ _ sa re (Post.bindI p fun ds m1 vs T st sa1 rds q => ?_)
  split at q
  · rename_i hl
    refine ⟨by rw [← rds.len]; exact hl, fun p hp => ?_⟩
    have st1 := Stp.tok sa1 (o := .lst vs) hp
    refine q (.ref p) (T.tok p (.lst vs)) st1 (sa1.tok hp (q := .lst ds) ⟨vs, upd_same, rds.stp st1⟩) (.loc ?_)
    show (T.i ++ [p])[m1.length]? = some p
    rw [← sa1.len, List.getElem?_append_right (Nat.le_refl _), Nat.sub_self]
    rfl
  · exact q.elim
end

/-! ### defs -/
/-- a def's promise by a function upon data -/
def spD (K : PySem.W.Frag) (n : Nat) (F : DFn) : Sp := fun vs H Q E => vs.length = n ∧ ∃ (S : Wd) (m : Mu) (ds : List D), S.H = H ∧ Sta K S m ∧ Reps K S.i S.F ds vs ∧ PostD K S (F ds m) Q E
abbrev FnD (P : Program) (w : World) (K : PySem.W.Frag) (mg : Str → Option Value) (base : Heap) (k : Nat) (f : Addr) (fd : FuncData) (ps : List Str) (F : DFn) : Prop := FnOk P w K mg base (L2.CX P w) k f fd ps (spD K ps.length F)
def env0 (N : Nat) (ds : List D) : En := ds.map some ++ List.replicate (N - ds.length) none
def dFn (N : Nat) (body : DS) : DFn := fun ds m => match body (env0 N ds) m with
  | .nx _ m1 => .ok .non m1
  | .rt d m1 => .ok d m1
  | .exc C fs _ m1 => .exc C fs m1
  | _ => .stuck
theorem relE_start {K : PySem.W.Frag} {S : Wd} {ds : List D} {vs : List V} {N : List Str} (r : Reps K S.i S.F ds vs) : RelE K S (env0 N.length ds) (L2.start N vs) := by
  have hl := r.len
  refine ⟨by simp [env0, L2.start, hl], fun i d e => ?_⟩
  unfold env0 at e
  by_cases hi : i < ds.length
  · rw [List.getElem?_append_left (by simpa using hi), List.getElem?_map] at e
    cases q : ds[i]? with
    | none => rw [q] at e; cases e
    | some d' =>
      rw [q] at e; cases e
      obtain ⟨v, h1, h2⟩ := r.get q
      refine ⟨v, ?_, h2⟩
      unfold L2.start
      rw [List.getElem?_append_left (by rw [List.length_map, ← hl]; exact hi), List.getElem?_map, h1]
      rfl
  · rw [List.getElem?_append_right (by simpa using hi), List.getElem?_replicate] at e
    split at e <;> cases e
section
variable {P : Program} {w : World} {K : PySem.W.Frag} {mg : Str → Option Value} {base : Heap}
theorem fnD_of {x qual : Str} {params : Arguments} {body : List Stmt} {scope : Scope} {dvs : List V} {kws : List (Str × V)} {f : Addr} {fd : FuncData} {N ps : List Str} {k : Nat} {t : DS} (F : FunD K x qual params body scope dvs kws f fd) (S : FnScope N ps scope)
    (h : ∀ (cdv : Value) (A : Around) (outer : List Env) (s : Shared) (H : Hp) (E : XK), Room k (A.deeper (envOfC qual scope s.heap.objs.size f cdv)) → PDSs (cxOf (L2.CX P w) P w K mg base N qual scope f cdv A outer s H E) body t) :
    FnD P w K mg base (k + 1) f fd ps (dFn N.length t) := by
  refine F.ok S (fun vs H Q E h => h.1) fun cdv A outer s H vs Q E hr hsp => ⟨_, mxSs _ body, ?_⟩
  obtain ⟨_, T, m, ds, rfl, sa, rd, p⟩ := hsp
  refine h cdv A outer s T.H E hr T (env0 N.length ds) m (L2.start N vs) _ sa (relE_start rd) ?_
  have tk : Takes (cxOf (L2.CX P w) P w K mg base N qual scope f cdv A outer s T.H E) (fun cls d _ H => E cls d H) := takes_of rfl rfl rfl rfl
  unfold dFn at p
  cases q : t (env0 N.length ds) m with
  | stuck => rw [q] at p; exact p.elim
  | nx e m1 => rw [q] at p; exact fun σ U st sa1 re => p .non U st sa1 .non
  | rt d m1 => rw [q] at p; exact fun v U st sa1 r1 => p v U st sa1 r1
  | bk e m1 => rw [q] at p; exact p.elim
  | ct e m1 => rw [q] at p; exact p.elim
  | exc C fs e m1 => rw [q] at p; exact fun dd vs σ U st hn sa1 re h1 h2 => Fly.of tk (p dd vs U st hn sa1 h1 h2)
/-- another function that answers where this one does -/
theorem FnD.imp' {k : Nat} {f : Addr} {fd : FuncData} {ps : List Str} {F G : DFn} (h : FnD P w K mg base k f fd ps F) (e : ∀ ds m, G ds m ≠ .stuck → F ds m = G ds m) : FnD P w K mg base k f fd ps G :=
  FnOk.imp h fun vs H Q E ⟨h1, S, m, ds, h2, h3, h4, h5⟩ => ⟨h1, S, m, ds, h2, h3, h4, by
    by_cases hs : G ds m = .stuck
    · rw [hs] at h5; exact h5.elim
    · rw [e ds m hs]; exact h5⟩
end
/-- how a def is bound: the written arguments, then these -/
structure Bd (K : PySem.W.Frag) (fd : FuncData) (ps : List Str) (dds : List D) : Prop where
  ex : ∃ (ds : List Value) (dvs : List V), Binds K fd ps ds ∧ Vals dvs ds ∧ ∀ (i : List Addr) (F : Hp), Reps K i F dds dvs
theorem Bd.nil {K : PySem.W.Frag} {fd : FuncData} {ps : List Str} (h : Binds K fd ps []) : Bd K fd ps [] := ⟨[], [], h, .nil, fun _ _ => .nil⟩
section
variable {X : Cx} {k : Nat} {f : Addr} {fd : FuncData} {ps : List Str} {G : DFn} {dds : List D}
theorem run_fnD {pins : List (Addr × Obj)} {σ : L2.St} {S : Wd} {m : Mu} {s : Shared} {Q : VK} {us : List Value} {vs : List V} {das : List D} (F : FnD X.prog X.w X.K X.mg X.base k f fd ps G) (hr : Room k X.A) (hb : Bd X.K fd ps dds)
    (I : Inv X pins σ S.H s) (sa : Sta X.K S m) (r : Reps X.K S.i S.F das vs) (rv : Vals vs us) (hl : (das ++ dds).length = ps.length) (h : PostD X.K S (G (das ++ dds) m) Q (fun c d H => Fly X c d σ H)) : wpAny (model X.prog X.w) X.A (call (.ref f) us) (EP X pins σ Q) X.xe s := by
  obtain ⟨ds, dvs, hb, hd, hD⟩ := hb.ex
  have r1 : Reps X.K S.i S.F (das ++ dds) (vs ++ dvs) := r.append (hD _ _)
  have r2 : Vals (vs ++ dvs) (us ++ ds) := rv.append hd
  have hlv : (vs ++ dvs).length = ps.length := by rw [← r1.len]; exact hl
  have hl2 : (us ++ ds).length = ps.length := by rw [← r2.length]; exact hlv
  refine wpAny_call (codeAny_mono (F.run X.A X.stack s S.H ⟨us, []⟩ (us ++ ds) (vs ++ dvs) Q (fun c d H => Fly X c d σ H) hr I.env0 (hb s us I.kIn hl2) r2 ⟨hlv, S, m, _, rfl, sa, r1, h⟩) fun r s' hq => ?_)
  cases r with
  | error e =>
    obtain ⟨a, B, sI, pins', σ', H', cls, d, e1, I', nb, up, sky, na, os, ag, e2, fl⟩ := XE.of_call I (W := fun c d σ' H => σ' = σ ∧ Fly X c d σ H) (fun cls d H' h => ⟨rfl, h⟩) hq
    exact fl e s' ⟨a, B, sI, pins', σ', H', cls, d, e1, I', nb, up, sky, na, os, ag, rfl, rfl, e2, rfl⟩
  | ok fl =>
    cases fl with
    | ret u => exact I.after hq
    | next => exact False.elim hq
    | brk => exact False.elim hq
    | cont => exact False.elim hq
def dCall (G : DFn) (n : Nat) (dds : List D) (t : DA) : DE := fun e m => (t e m).bind fun ds m1 => if (ds ++ dds).length = n then G (ds ++ dds) m1 else .stuck
variable {x mn : Str} {p pos apos : Pos} {e o : Expr} {es : List Expr} {t : DA} {to : DE}
theorem pd_call (F : FnD X.prog X.w X.K X.mg X.base k f fd ps G) (hr : Room k X.A) (hm : X.mg x = some (.ref f)) (hk : PySem.W.keepIn X.K (.ref f) = true) (hb : Bd X.K fd ps dds) (ha : PDA X (e :: es) t)
    (hg : Gl X x := by rfl) (hdb : (x == ("__debug__" : Str)) = false := by decide) (he : starEach (e :: es) X.env = (false, eval e X.env) :: starEach es X.env := by exact se_cons _ _ _ rfl) (hpl : (backTo pos (starEach es X.env)).any (·.1) = false := by exact se_any _ _ _ rfl) :
    PDE X (.Call (.Name x p) (e :: es) [] pos) (dCall G ps.length dds t) := by
  intro S r m σ Q sa re q pins s I
  refine wpAny_Call_Name_kw (ld_glob I hg hm ?_ hdb)
  refine PySem.W.callWith_K (h₀ := X.base) I.ok.mod.kin hk (thn (ha.run sa re q I pos) ?_) he hpl
  rintro us s1 ⟨xs, ds, m1, T, st, sa1, rds, rv, I1, q1⟩
  refine ⟨I1.kIn, ?_⟩
  split at q1
  · rename_i hl
    exact run_fnD F hr hb I1 sa1 rds rv hl q1
  · exact q1.elim
theorem pd_call0 (F : FnD X.prog X.w X.K X.mg X.base k f fd ps G) (hr : Room k X.A) (hm : X.mg x = some (.ref f)) (hk : PySem.W.keepIn X.K (.ref f) = true) (hb : Bd X.K fd ps dds)
    (hg : Gl X x := by rfl) (hdb : (x == ("__debug__" : Str)) = false := by decide) : PDE X (.Call (.Name x p) [] [] pos) (dCall G ps.length dds dNil) := by
  intro S r m σ Q sa re q pins s I
  refine wpAny_Call_Name_kw (ld_glob I hg hm ?_ hdb)
  have q : PostD X.K S (if ([] ++ dds).length = ps.length then G ([] ++ dds) m else .stuck) Q _ := q
  split at q
  · rename_i hl
    exact PySem.W.callWith_K0 I.kIn hk (run_fnD (us := []) F hr hb I sa .nil .nil hl q)
  · exact q.elim

/-! ### objects -/
/-- the class and the attributes of an instance that never changes, or of the store -/
def insOf (m : Mu) : D → Option (Addr × List Str × List D)
  | .obj c ds => some (c.a, c.ns, ds)
  | .loc n => match m[n]? with
    | some (.ins C fs) => some (C, fs.map (·.1), fs.map (·.2))
    | _ => none
  | _ => none
theorem RepF.split {K : PySem.W.Frag} {i : List Addr} {F : Hp} : ∀ {fs : List (Str × D)} {vs : List (Str × V)}, RepF K i F fs vs → vs.map (·.1) = fs.map (·.1) ∧ Reps K i F (fs.map (·.2)) (vs.map (·.2))
  | _, _, .nil => ⟨rfl, .nil⟩
  | _, _, .cons h r => ⟨by simp [(RepF.split r).1], .cons h (RepF.split r).2⟩
theorem insOf_ok {K : PySem.W.Frag} {S : Wd} {m : Mu} {d : D} {v : V} {C : Addr} {ns : List Str} {ds : List D} (sa : Sta K S m) (r : Rep K S.i S.F d v) (h : insOf m d = some (C, ns, ds)) :
    ∃ a dx vs, v = .ref a ∧ S.H a = some (.ins C dx vs) ∧ vs.map (·.1) = ns ∧ Reps K S.i S.F ds (vs.map (·.2)) := by
  cases r with
  | obj h1 h2 h3 => cases h; exact ⟨_, _, _, rfl, sa.sub _ _ h1, h2, h3⟩
  | @loc n a h1 =>
    unfold insOf at h
    dsimp only at h
    split at h
    · rename_i C' fs e
      cases h
      obtain ⟨dx, vs, q1, q2⟩ := sa.ok n a _ h1 e
      exact ⟨a, dx, vs, rfl, q1, q2.split.1, q2.split.2⟩
    · cases h
  | _ => cases h
/-- the i-th name is f, and none ahead -/
theorem lookup_at {α : Type} {f : Str} : ∀ {vs : List (Str × α)} {i : Nat} {v : α}, (vs.map (·.1))[i]? = some f → f ∉ (vs.map (·.1)).take i → (vs.map (·.2))[i]? = some v → vs.lookup f = some v
  | [], _, _, h, _, _ => by simp at h
  | (g, x) :: r, 0, v, h, _, h3 => by
    simp at h h3; subst h; subst h3
    simp [List.lookup_cons]
  | (g, x) :: r, i + 1, v, h, h2, h3 => by
    have hne : f ≠ g := by
      intro e; subst e
      exact h2 (by simp)
    rw [List.lookup_cons]
    have : (f == g) = false := by simpa using hne
    rw [this]
    refine lookup_at (i := i) (by simpa using h) (fun z => h2 ?_) (by simpa using h3)
    simp only [List.map_cons, List.take_succ_cons]
    exact List.mem_cons_of_mem _ z
theorem lookup_not {α : Type} {f : Str} : ∀ {vs : List (Str × α)}, f ∉ vs.map (·.1) → vs.lookup f = none
  | [], _ => rfl
  | (g, x) :: r, h => by
    have hne : f ≠ g := fun e => h (by subst e; simp)
    rw [List.lookup_cons]
    have : (f == g) = false := by simpa using hne
    rw [this]
    exact lookup_not fun z => h (by simp only [List.map_cons]; exact List.mem_cons_of_mem _ z)
/-- e.f, for each class the place of f -/
def fldAt (rows : List (Kl × Nat)) (C : Addr) (ns : List Str) (ds : List D) : Option D := match rows with
  | [] => none
  | (c, i) :: rest => if C = c.a ∧ ns = c.ns then ds[i]? else fldAt rest C ns ds
def dFld (rows : List (Kl × Nat)) (t : DE) : DE := fun e m => (t e m).bind fun d m1 => match insOf m1 d with
  | some (C, ns, ds) => match fldAt rows C ns ds with
    | some x => .ok x m1
    | none => .stuck
  | none => .stuck
structure FldOk (K : PySem.W.Frag) (f : Str) (c : Kl) (i : Nat) : Prop where
  cl : Cls K c.a
  no : NoAttr K c.a f
  at_ : c.ns[i]? = some f
  fst : f ∉ c.ns.take i
theorem fldAt_ok {K : PySem.W.Frag} {f : Str} : ∀ {rows : List (Kl × Nat)} {C : Addr} {ns : List Str} {ds : List D} {d : D}, (∀ r ∈ rows, FldOk K f r.1 r.2) → fldAt rows C ns ds = some d → ∃ c i, FldOk K f c i ∧ C = c.a ∧ ns = c.ns ∧ ds[i]? = some d
  | [], _, _, _, _, _, h => by cases h
  | (c, i) :: rest, C, ns, ds, d, hr, h => by
    unfold fldAt at h
    split at h
    · rename_i e
      exact ⟨c, i, hr _ List.mem_cons_self, e.1, e.2, h⟩
    · exact fldAt_ok (fun r hm => hr r (List.mem_cons_of_mem _ hm)) h
theorem pd_fld {f : Str} {rows : List (Kl × Nat)} (he : PDE X o to) (hrows : ∀ r ∈ rows, FldOk X.K f r.1 r.2) (hb : attributeBase o f X.env (eval o X.env) = eval o X.env := by rfl) : PDE X (.Attribute o f pos) (dFld rows to) := by
  refine pd_of (pe_fld (mxE X o) hb) fun S r m σ Q sa re p => ?_
  refine he S r m σ _ sa re (Post.bindI p fun d m1 v T st sa1 rd q => ?_)
  split at q
  · rename_i C ns ds e
    split at q
    · rename_i x ex
      obtain ⟨c, i, ok, rfl, rfl, hx⟩ := fldAt_ok hrows ex
      obtain ⟨a, dx, vs, rfl, h1, h2, h3⟩ := insOf_ok sa1 rd e
      obtain ⟨y, hy, ry⟩ := h3.get hx
      exact ⟨a, c.a, dx, vs, y, rfl, h1, ok.cl, ok.no, lookup_at (by rw [h2]; exact ok.at_) (by rw [h2]; exact ok.fst) hy, Post.ok q (Stp.refl T) sa1 ry⟩
    · exact q.elim
  · exact q.elim
end
end DL

namespace DL
open PySem PySem.Spec PyProof.Rows L2
variable [LamTab]

/-- the written arguments, then the defaults -/
def padF (n : Nat) (dds : List D) (G : DFn) : DFn := fun ds m => if (ds ++ dds).length = n then G (ds ++ dds) m else .stuck
section
variable (P : Program) (w : World) (K : PySem.W.Frag) (mg : Str → Option Value) (base : Heap)
/-- a def by its global name -/
structure FT (k : Nat) (x : Str) (G : DFn) : Prop where
  ex : ∃ (f : Addr) (fd : FuncData) (ps : List Str) (dds : List D) (G0 : DFn), mg x = some (.ref f) ∧ PySem.W.keepIn K (.ref f) = true ∧ FnD P w K mg base k f fd ps G0 ∧ Bd K fd ps dds ∧ G = padF ps.length dds G0
/-- a method of the class at C -/
structure MT (k : Nat) (mn : Str) (C : Addr) (G : DFn) : Prop where
  ex : ∃ (f : Addr) (fd : FuncData) (ps : List Str) (dds : List D) (G0 : DFn), PySem.W.findIn K (.ref C) mn = some (some (.ref f)) ∧ PySem.W.isFn K (.ref f) = true ∧ PySem.W.keepIn K (.ref f) = true ∧ FnD P w K mg base k f fd ps G0 ∧ Bd K fd ps dds ∧ G = padF ps.length dds G0
end
section
variable {X : Cx}
/-- a call at some depth below -/
theorem run_fnA {k : Nat} {f : Addr} {fd : FuncData} {ps : List Str} {G : DFn} {dds : List D} {A : Around} {pins : List (Addr × Obj)} {σ : L2.St} {S : Wd} {m : Mu} {s : Shared} {Q : VK} {us : List Value} {vs : List V} {das : List D} (F : FnD X.prog X.w X.K X.mg X.base k f fd ps G) (hr : Room k A) (hb : Bd X.K fd ps dds)
    (hA : A.frames = X.A.frames) (I : Inv X pins σ S.H s) (sa : Sta X.K S m) (r : Reps X.K S.i S.F das vs) (rv : Vals vs us) (h : PostD X.K S (padF ps.length dds G das m) Q (fun c d H => Fly X c d σ H)) : wpAny (model X.prog X.w) A (call (.ref f) us) (EP X pins σ Q) X.xe s := by
  unfold padF at h
  split at h
  · rename_i hl
    obtain ⟨ds, dvs, hb, hd, hD⟩ := hb.ex
    have r1 : Reps X.K S.i S.F (das ++ dds) (vs ++ dvs) := r.append (hD _ _)
    have r2 : Vals (vs ++ dvs) (us ++ ds) := rv.append hd
    have hlv : (vs ++ dvs).length = ps.length := by rw [← r1.len]; exact hl
    have hl2 : (us ++ ds).length = ps.length := by rw [← r2.length]; exact hlv
    have e0 := I.env0
    have e1 : Env0 X.prog X.w X.K X.mg X.base A X.stack s S.H := ⟨hA.trans e0.frames, e0.mod, e0.bs, e0.bsz, e0.funs, e0.frf, e0.hok, e0.bare⟩
    refine wpAny_call (codeAny_mono (F.run A X.stack s S.H ⟨us, []⟩ (us ++ ds) (vs ++ dvs) Q (fun c d H => Fly X c d σ H) hr e1 (hb s us I.kIn hl2) r2 ⟨hlv, S, m, _, rfl, sa, r1, h⟩) fun r s' hq => ?_)
    cases r with
    | error e =>
      obtain ⟨a, B, sI, pins', σ', H', cls, d, e1, I', nb, up, sky, na, os, ag, e2, fl⟩ := XE.of_call I (W := fun c d σ' H => σ' = σ ∧ Fly X c d σ H) (fun cls d H' h => ⟨rfl, h⟩) hq
      exact fl e s' ⟨a, B, sI, pins', σ', H', cls, d, e1, I', nb, up, sky, na, os, ag, rfl, rfl, e2, rfl⟩
    | ok fl =>
      cases fl with
      | ret u => exact I.after hq
      | next => exact False.elim hq
      | brk => exact False.elim hq
      | cont => exact False.elim hq
  · exact h.elim
theorem in1_frames (A : Around) : A.in1.frames = A.frames := rfl
def dFun (G : DFn) (t : DA) : DE := fun e m => (t e m).bind G
variable {k : Nat} {G : DFn} {x mn : Str} {p pos apos : Pos} {e o : Expr} {es : List Expr} {t : DA} {to ta tb : DE}
theorem pd_fun (F : FT X.prog X.w X.K X.mg X.base k x G) (hr : Room k X.A) (ha : PDA X (e :: es) t)
    (hg : Gl X x := by rfl) (hdb : (x == ("__debug__" : Str)) = false := by decide) (he : starEach (e :: es) X.env = (false, eval e X.env) :: starEach es X.env := by exact se_cons _ _ _ rfl) (hpl : (backTo pos (starEach es X.env)).any (·.1) = false := by exact se_any _ _ _ rfl) :
    PDE X (.Call (.Name x p) (e :: es) [] pos) (dFun G t) := by
  obtain ⟨f, fd, ps, dds, G0, hm, hk, hf, hb, rfl⟩ := F.ex
  intro S r m σ Q sa re q pins s I
  refine wpAny_Call_Name_kw (ld_glob I hg hm ?_ hdb)
  refine PySem.W.callWith_K (h₀ := X.base) I.ok.mod.kin hk (thn (ha.run sa re q I pos) ?_) he hpl
  rintro us s1 ⟨xs, ds, m1, T, st, sa1, rds, rv, I1, q1⟩
  exact ⟨I1.kIn, run_fnA hf hr hb rfl I1 sa1 rds rv q1⟩
theorem pd_fun0 (F : FT X.prog X.w X.K X.mg X.base k x G) (hr : Room k X.A)
    (hg : Gl X x := by rfl) (hdb : (x == ("__debug__" : Str)) = false := by decide) : PDE X (.Call (.Name x p) [] [] pos) (dFun G dNil) := by
  obtain ⟨f, fd, ps, dds, G0, hm, hk, hf, hb, rfl⟩ := F.ex
  intro S r m σ Q sa re q pins s I
  refine wpAny_Call_Name_kw (ld_glob I hg hm ?_ hdb)
  exact PySem.W.callWith_K0 I.kIn hk (run_fnA (us := []) hf hr hb rfl I sa .nil .nil q)

/-! ### methods -/
def methAt (rows : List (Kl × DFn)) (C : Addr) (ns : List Str) : Option DFn := match rows with
  | [] => none
  | (c, G) :: rest => if C = c.a ∧ ns = c.ns then some G else methAt rest C ns
theorem methAt_ok {P : Kl → DFn → Prop} : ∀ {rows : List (Kl × DFn)} {C : Addr} {ns : List Str} {G : DFn}, (∀ r ∈ rows, P r.1 r.2) → methAt rows C ns = some G → ∃ c, P c G ∧ C = c.a ∧ ns = c.ns
  | [], _, _, _, _, h => by cases h
  | (c, i) :: rest, C, ns, d, hr, h => by
    unfold methAt at h
    split at h
    · rename_i e
      cases h
      exact ⟨c, hr _ List.mem_cons_self, e.1, e.2⟩
    · exact methAt_ok (fun r hm => hr r (List.mem_cons_of_mem _ hm)) h
/-- o.m(..), for each class its method -/
def dMeth (rows : List (Kl × DFn)) (to : DE) (t : DA) : DE := fun e m => (to e m).bind fun o m1 => match insOf m1 o with
  | some (C, ns, _) => match methAt rows C ns with
    | some G => (t e m1).bind fun ds m2 => G (o :: ds) m2
    | none => .stuck
  | none => .stuck
structure MethOk (P : Program) (w : World) (K : PySem.W.Frag) (mg : Str → Option Value) (base : Heap) (k : Nat) (mn : Str) (c : Kl) (G : DFn) : Prop where
  cl : Cls K c.a
  mt : MT P w K mg base k mn c.a G
  no : mn ∉ c.ns
theorem pd_meth {rows : List (Kl × DFn)} {pl : Sem Bool} (he : PDE X o to) (hrows : ∀ r ∈ rows, MethOk X.prog X.w X.K X.mg X.base k mn r.1 r.2) (hr : Room k X.A) (ha : PDA X (e :: es) t)
    (hst : starEach (e :: es) X.env = (false, eval e X.env) :: starEach es X.env := by exact se_cons _ _ _ rfl) (hpl : (backTo pos (starEach es X.env)).any (·.1) = false := by exact se_any _ _ _ rfl)
    (ht : eval (.Call (.Attribute o mn apos) (e :: es) [] pos) X.env = (do
      let ov ← eval o X.env
      standAt apos.atName
      let (f, first) ← holding [ov] (getMethod ov mn pl)
      callWith pos f first (backTo pos (starEach (e :: es) X.env)) (backToKw pos (keywordEach [] X.env))) := by rfl) :
    PDE X (.Call (.Attribute o mn apos) (e :: es) [] pos) (dMeth rows to t) := by
  intro S r m σ Q sa re q pins s I
  refine PySem.W.methodCall_KW (pl := pl) (thn (he.run sa re q I) ?_) ht
  rintro u s1 ⟨x, d, m1, T, st, sa1, rd, rx, I1, q1⟩
  split at q1
  · rename_i C ns ds ei
    split at q1
    · rename_i G eG
      obtain ⟨c, ok, rfl, rfl⟩ := methAt_ok (P := MethOk X.prog X.w X.K X.mg X.base k mn) hrows eG
      obtain ⟨a, dx, vs, rfl, h1, h2, h3⟩ := insOf_ok sa1 rd ei
      obtain ⟨f, fd, ps, dds, G0, hf1, hf2, hk, hf, hb, rfl⟩ := ok.mt.ex
      obtain rfl : u = Value.ref a := rx
      refine getmeth_ok I1 h1 ok.cl ⟨hf1, hf2, hk⟩ (lookup_not (by rw [h2]; exact ok.no)) ?_
      refine PySem.W.callWith_K (first := [.ref a]) (h₀ := X.base) I.ok.mod.kin hk (thn (ha.run sa1 (re.stp st) q1 I1 pos) ?_) hst hpl
      rintro us s2 ⟨xs, das, m2, U, st2, sa2, rds, rv, I2, q2⟩
      exact ⟨I2.kIn, run_fnA (us := .ref a :: us) hf hr hb rfl I2 sa2 (.cons (rd.stp st2) rds) (.cons rfl rv) q2⟩
    · exact (show False from q1).elim
  · exact (show False from q1).elim
theorem pd_meth0 {rows : List (Kl × DFn)} {pl : Sem Bool} (he : PDE X o to) (hrows : ∀ r ∈ rows, MethOk X.prog X.w X.K X.mg X.base k mn r.1 r.2) (hr : Room k X.A)
    (ht : eval (.Call (.Attribute o mn apos) [] [] pos) X.env = (do
      let ov ← eval o X.env
      standAt apos.atName
      let (f, first) ← holding [ov] (getMethod ov mn pl)
      callWith pos f first (backTo pos (starEach [] X.env)) (backToKw pos (keywordEach [] X.env))) := by rfl) :
    PDE X (.Call (.Attribute o mn apos) [] [] pos) (dMeth rows to dNil) := by
  intro S r m σ Q sa re q pins s I
  refine PySem.W.methodCall_KW (pl := pl) (thn (he.run sa re q I) ?_) ht
  rintro u s1 ⟨x, d, m1, T, st, sa1, rd, rx, I1, q1⟩
  split at q1
  · rename_i C ns ds ei
    split at q1
    · rename_i G eG
      obtain ⟨c, ok, rfl, rfl⟩ := methAt_ok (P := MethOk X.prog X.w X.K X.mg X.base k mn) hrows eG
      obtain ⟨a, dx, vs, rfl, h1, h2, h3⟩ := insOf_ok sa1 rd ei
      obtain ⟨f, fd, ps, dds, G0, hf1, hf2, hk, hf, hb, rfl⟩ := ok.mt.ex
      obtain rfl : u = Value.ref a := rx
      refine getmeth_ok I1 h1 ok.cl ⟨hf1, hf2, hk⟩ (lookup_not (by rw [h2]; exact ok.no)) ?_
      exact PySem.W.callWith_K0 (first := [.ref a]) I1.kIn hk (run_fnA (us := [.ref a]) hf hr hb rfl I1 sa1 (.cons rd .nil) (.cons rfl .nil) q1)
    · exact (show False from q1).elim
  · exact (show False from q1).elim

/-! ### properties -/
structure PropOk (P : Program) (w : World) (K : PySem.W.Frag) (mg : Str → Option Value) (base : Heap) (k : Nat) (f : Str) (c : Kl) (G : DFn) : Prop where
  cl : Cls K c.a
  ex : ∃ (p g : Addr) (fd : FuncData) (ps : List Str) (G0 : DFn), PropOf K c.a f p g ∧ FnD P w K mg base k g fd ps G0 ∧ Bd K fd ps [] ∧ G = padF ps.length [] G0
def noExc (r : Res D) : Res D := match r with
  | .ok d m => .ok d m
  | _ => .stuck
def dProp (rows : List (Kl × DFn)) (to : DE) : DE := fun e m => (to e m).bind fun o m1 => match insOf m1 o with
  | some (C, ns, _) => match methAt rows C ns with
    | some G => noExc (G [o] m1)
    | none => .stuck
  | none => .stuck
theorem pd_prop {f : Str} {rows : List (Kl × DFn)} (he : PDE X o to) (hrows : ∀ r ∈ rows, PropOk X.prog X.w X.K X.mg X.base k f r.1 r.2) (hr : Room (k + 1) X.A) (hab : attributeBase o f X.env (eval o X.env) = eval o X.env := by rfl) :
    PDE X (.Attribute o f pos) (dProp rows to) := by
  intro S r m σ Q sa re q pins s I
  refine attr_of hab (thn (he.run sa re q I) ?_)
  rintro u s1 ⟨x, d, m1, T, st, sa1, rd, rx, I1, q1⟩
  split at q1
  · rename_i C ns ds ei
    split at q1
    · rename_i G eG
      obtain ⟨c, ok, rfl, rfl⟩ := methAt_ok (P := PropOk X.prog X.w X.K X.mg X.base k f) hrows eG
      obtain ⟨a, dx, vs, rfl, h1, h2, h3⟩ := insOf_ok sa1 rd ei
      obtain ⟨pp, g, fd, ps, G0, hp, hf, hb, rfl⟩ := ok.ex
      obtain rfl : u = Value.ref a := rx
      unfold padF at q1
      split at q1
      · rename_i hl
        have hl' : [d].length = ps.length := by simpa using hl
        cases hG : G0 ([d] ++ []) m1 with
        | stuck => rw [hG] at q1; exact (show False from q1).elim
        | exc C fs m2 => rw [hG] at q1; exact (show False from q1).elim
        | ok dv m2 =>
          rw [hG] at q1
          obtain ⟨ds', dvs, hb1, hd1, hD⟩ := hb.ex
          have hnil : dvs = [] := by
            have := hD [] (fun _ => none)
            cases this; rfl
          subst hnil
          cases hd1
          refine getprop_ok (sp := spD X.K ps.length G0) (E := E0) I1 h1 ok.cl hp hf hr hb1 .nil passL ⟨by simpa using hl', T, m1, [d], rfl, sa1, .cons rd .nil, ?_⟩
          rw [show ([d] : List D) = [d] ++ [] from rfl, hG]
          exact q1
      · exact (show False from q1).elim
    · exact (show False from q1).elim
  · exact (show False from q1).elim

/-! ### operators of own classes -/
theorem Inv.inst {pins : List (Addr × Obj)} {σ : L2.St} {H : Hp} {s : Shared} {a C dx : Addr} {fs : List (Str × V)} (I : Inv X pins σ H s) (e : H a = some (.ins C dx fs)) : ∃ od, PySem.W.InstAt s.heap a (PySem.W.instObj C dx) C (some od) := by
  obtain ⟨mA, O, _, _, _, _⟩ := ins_get I.hok e
  obtain ⟨od, J, _⟩ := O.look
  exact ⟨od, J⟩
theorem cmpBack_of {Q : Value → Shared → Prop} {pins : List (Addr × Obj)} {σ : L2.St} {Q' : VK} {v : Value} {s : Shared} (h : EP X pins σ Q' v s) (k : EP X pins σ Q' v s → Q v s) : PySem.W.CmpBack Q v s := by
  obtain ⟨y, H, I, r, q⟩ := id h
  cases y with
  | non => cases r; exact k h
  | bl b => cases r; exact k h
  | int i => obtain ⟨t, rfl⟩ := r; exact k h
  | str i => obtain ⟨t, rfl⟩ := r; exact k h
  | byt i => obtain ⟨t, rfl⟩ := r; exact k h
  | flt i => obtain ⟨t, rfl⟩ := r; exact k h
  | ref a => cases r; exact k h
  | ty n => cases r; exact k h
/-- a op b, both of the class at C, by its method -/
def dOwn2 (C : Addr) (G : DFn) : D2 := fun x y m => match insOf m x, insOf m y with
  | some (C1, _, _), some (C2, _, _) => if C1 = C ∧ C2 = C then G [x, y] m else .stuck
  | _, _ => .stuck
theorem od_own {op : Operator} {C : Addr} {G : DFn} (hm : MT X.prog X.w X.K X.mg X.base k (PySem.dunder op.info.2) C G) (hc : PySem.W.selfFirst X.K C = true) (hr : Room k X.A) : OD X (binaryOp op) (dOwn2 C G) := by
  intro pins s σ S m x y vx vy u w Q sa rx ry I hu hw p
  unfold dOwn2 at p
  split at p
  · rename_i C1 n1 d1 C2 n2 d2 e1 e2
    split at p
    · rename_i hC
      obtain ⟨rfl, rfl⟩ := hC
      obtain ⟨a, dx, vs, rfl, h1, _, _⟩ := insOf_ok sa rx e1
      obtain ⟨b, dy, ws, rfl, h2, _, _⟩ := insOf_ok sa ry e2
      obtain rfl : u = Value.ref a := hu
      obtain rfl : w = Value.ref b := hw
      obtain ⟨f, fd, ps, dds, G0, hf1, hf2, hk, hf, hb, rfl⟩ := hm.ex
      obtain ⟨od1, J1⟩ := Inv.inst I h1
      obtain ⟨od2, J2⟩ := Inv.inst I h2
      obtain ⟨mm, F⟩ := I.fr
      refine PySem.W.binop_K F I.ok.mod.kin J1 J2.type hc hf1 hf2 (thn (run_fnA (us := [.ref a, .ref b]) hf hr hb rfl I sa (.cons rx (.cons ry .nil)) (.cons rfl (.cons rfl .nil)) p) fun v s1 h => cmpBack_of h fun h => h)
    · exact p.elim
  · exact p.elim
/-- -a of the class at C -/
def dNeg (C : Addr) (G : DFn) (t : DE) : DE := fun e m => (t e m).bind fun x m1 => match x with
  | .int i => .ok (.int (-i)) m1
  | _ => match insOf m1 x with
    | some (C1, _, _) => if C1 = C then G [x] m1 else .stuck
    | none => .stuck
theorem pd_neg {C : Addr} {G : DFn} (ha : PDE X o ta) (hm : MT X.prog X.w X.K X.mg X.base k "__neg__" C G) (hr : Room k X.A) : PDE X (.UnaryOp .USub o pos) (dNeg C G ta) := by
  intro S r m σ Q sa re q pins s I
  refine UnaryOp_ (thn (ha.run sa re q I) ?_)
  rintro u s1 ⟨x, d, m1, T, st, sa1, rd, rx, I1, q1⟩
  split at q1
  · cases rd
    exact un_neg pins s1 σ T.H _ u Q I1 rx ⟨_, rfl, Post.ok q1 (Stp.refl T) sa1 (.int _)⟩
  · split at q1
    · rename_i C1 n1 d1 e1
      split at q1
      · rename_i hC
        subst hC
        obtain ⟨a, dx, vs, rfl, h1, _, _⟩ := insOf_ok sa1 rd e1
        obtain rfl : u = Value.ref a := rx
        obtain ⟨f, fd, ps, dds, G0, hf1, hf2, hk, hf, hb, rfl⟩ := hm.ex
        obtain ⟨od1, J1⟩ := Inv.inst I1 h1
        obtain ⟨mm, F⟩ := I1.fr
        exact PySem.W.ksp_neg F I1.ok.mod.kin J1 hf1 hf2 (run_fnA (us := [.ref a]) hf hr hb rfl I1 sa1 (.cons rd .nil) (.cons rfl .nil) q1)
      · exact (show False from q1).elim
    · exact (show False from q1).elim
/-- -a of an int -/
def dNegI (t : DE) : DE := fun e m => (t e m).bind fun x m1 => match x with
  | .int i => .ok (.int (-i)) m1
  | _ => .stuck
theorem pd_negI (ha : PDE X o ta) : PDE X (.UnaryOp .USub o pos) (dNegI ta) := by
  refine pd_of (pe_un un_neg (mxE X o)) fun S r m σ Q sa re p => ?_
  refine ha S r m σ _ sa re (Post.bindI p fun d m1 v T st sa1 rd q => ?_)
  cases rd with
  | int i => exact ⟨i, rfl, Post.ok q (Stp.refl T) sa1 (.int _)⟩
  | _ => exact q.elim
end
end DL

namespace DL
open PySem PySem.Spec PyProof.Rows L2
variable [LamTab]
section
variable {X : Cx}
/-! ### numbers, texts, lists: operators -/
def gI2 (C : Int → Int → Bool) (k : Int → Int → D) : D2 := fun x y m => match x with
  | .int i => match y with
    | .int j => if C i j then .ok (k i j) m else .stuck
    | _ => .stuck
  | _ => .stuck
theorem od_i2 {f : Value → Value → Sem Value} {C : Int → Int → Bool} {C' : Int → Int → Prop} {k : Int → Int → D} {k' : Int → Int → V} (ho : OpR X f (rI C' k')) (hC : ∀ i j, C i j = true → C' i j) (hk : ∀ K i F a b, Rep K i F (k a b) (k' a b)) : OD X f (gI2 C k) := by
  refine od_of ho fun S m x y vx vy Q W sa rx ry p => ?_
  unfold gI2 at p
  cases rx with
  | int i =>
    cases ry with
    | int j =>
      dsimp only at p
      split at p
      · rename_i hc
        exact ⟨i, j, rfl, rfl, hC i j hc, Post.ok p (Stp.refl S) sa (hk _ _ _ i j)⟩
      · exact p.elim
    | _ => exact p.elim
  | _ => exact p.elim
def gI0 (k : Int → Int → D) : D2 := fun x y m => match x with
  | .int i => match y with
    | .int j => .ok (k i j) m
    | _ => .stuck
  | _ => .stuck
theorem od_i0 {f : Value → Value → Sem Value} {k : Int → Int → D} {k' : Int → Int → V} (ho : OpR X f (rI0 k')) (hk : ∀ K i F a b, Rep K i F (k a b) (k' a b)) : OD X f (gI0 k) := by
  refine od_of ho fun S m x y vx vy Q W sa rx ry p => ?_
  unfold gI0 at p
  cases rx with
  | int i =>
    cases ry with
    | int j => exact ⟨i, j, rfl, rfl, Post.ok p (Stp.refl S) sa (hk _ _ _ i j)⟩
    | _ => exact p.elim
  | _ => exact p.elim
abbrev gAdd : D2 := gI0 fun i j => .int (i + j)
abbrev gSub : D2 := gI0 fun i j => .int (i - j)
def mulOk (i j : Int) : Bool := decide (i.natAbs.log2 + j.natAbs.log2 < 1000000)
def divOk (_ j : Int) : Bool := decide (j ≠ 0 ∧ j.natAbs.log2 < 9000)
abbrev gMul : D2 := gI2 mulOk fun i j => .int (i * j)
abbrev gDiv : D2 := gI2 divOk fun i j => .int (i.fdiv j)
abbrev gMod : D2 := gI2 (fun _ j => decide (0 < j)) fun i j => .int (i % j)
def powOk (i j : Int) : Bool := decide (0 ≤ j ∧ j ≤ 1000000 ∧ i.natAbs < 2 ^ 64)
abbrev gPow : D2 := gI2 powOk fun i j => .int (i ^ j.toNat)
theorem od_add : OD X (binaryOp .Add) gAdd := od_i0 op_add fun _ _ _ _ _ => .int _
theorem od_sub : OD X (binaryOp .Sub) gSub := od_i0 op_sub fun _ _ _ _ _ => .int _
theorem od_mul : OD X (binaryOp .Mult) gMul := od_i2 op_mulW (fun i j h => (of_decide_eq_true h : i.natAbs.log2 + j.natAbs.log2 < 1000000)) fun _ _ _ _ _ => .int _
theorem op_fdivX : OpR X (binaryOp .FloorDiv) (rI (fun _ j => j ≠ 0 ∧ j.natAbs.log2 < 9000) fun i j => .int (i.fdiv j)) := opI fun i j _ _ _ _ _ hc q =>
  floordiv_int hc.1 q (.inl (PyProof.noPylong_of_log2 hc.2))
theorem od_div : OD X (binaryOp .FloorDiv) gDiv := od_i2 op_fdivX (fun _ _ h => of_decide_eq_true h) fun _ _ _ _ _ => .int _
theorem od_mod : OD X (binaryOp .Mod) gMod := od_i2 op_mod (fun _ _ h => of_decide_eq_true h) fun _ _ _ _ _ => .int _
theorem od_pow : OD X (binaryOp .Pow) gPow := od_i2 op_pow (fun i j h => (of_decide_eq_true h : 0 ≤ j ∧ j ≤ 1000000 ∧ i.natAbs < 2 ^ 64)) fun _ _ _ _ _ => .int _
abbrev gLt : D2 := gI0 fun i j => .bl (decide (i < j))
abbrev gLe : D2 := gI0 fun i j => .bl (decide (i ≤ j))
abbrev gGt : D2 := gI0 fun i j => .bl (decide (j < i))
abbrev gGe : D2 := gI0 fun i j => .bl (decide (j ≤ i))
theorem od_lt : OD X (compareOp .Lt) gLt := od_i0 op_lt fun _ _ _ _ _ => .bl _
theorem od_le : OD X (compareOp .LtE) gLe := od_i0 op_le fun _ _ _ _ _ => .bl _
theorem od_gt : OD X (compareOp .Gt) gGt := od_i0 op_gt fun _ _ _ _ _ => .bl _
theorem od_ge : OD X (compareOp .GtE) gGe := od_i0 op_ge fun _ _ _ _ _ => .bl _
/-- texts joined; lists joined (a new one that is never changed) -/
def gAddS : D2 := fun x y m => match x with
  | .str a => match y with
    | .str b => if a.length + b.length ≤ sizeLine then .ok (.str (a ++ b)) m else .stuck
    | _ => .stuck
  | _ => .stuck
theorem od_addS : OD X (binaryOp .Add) gAddS := by
  refine od_of op_add_str fun S m x y vx vy Q W sa rx ry p => ?_
  unfold gAddS at p
  cases rx with
  | str i =>
    cases ry with
    | str j =>
      dsimp only at p
      split at p
      · rename_i hc
        exact ⟨i, j, rfl, rfl, hc, Post.ok p (Stp.refl S) sa (.str _)⟩
      · exact p.elim
    | _ => exact p.elim
  | _ => exact p.elim
/-! ### is None -/
def gIsN : D2 := fun x y m => match y with
  | .non => match x with
    | .non => .ok (.bl true) m
    | .val _ => .stuck
    | _ => .ok (.bl false) m
  | _ => .stuck
def gNotN : D2 := fun x y m => match y with
  | .non => match x with
    | .non => .ok (.bl false) m
    | .val _ => .stuck
    | _ => .ok (.bl true) m
  | _ => .stuck
theorem od_isN : OD X (compareOp .Is) gIsN := by
  refine od_of op_isN fun S m x y vx vy Q W sa rx ry p => ?_
  unfold gIsN at p
  cases ry with
  | non =>
    refine ⟨rfl, ?_⟩
    cases rx with
    | val v => exact p.elim
    | non => exact Post.ok p (Stp.refl S) sa (.bl true)
    | _ => exact Post.ok p (Stp.refl S) sa (.bl false)
  | _ => exact p.elim
theorem od_notN : OD X (compareOp .IsNot) gNotN := by
  refine od_of op_notN fun S m x y vx vy Q W sa rx ry p => ?_
  unfold gNotN at p
  cases ry with
  | non =>
    refine ⟨rfl, ?_⟩
    cases rx with
    | val v => exact p.elim
    | non => exact Post.ok p (Stp.refl S) sa (.bl false)
    | _ => exact Post.ok p (Stp.refl S) sa (.bl true)
  | _ => exact p.elim
/-! ### == -/
mutual
def toPy : D → Option PyData
  | .non => some .none
  | .bl b => some (.bool b)
  | .int i => some (.int i)
  | .str x => some (.str x)
  | .lst ds => (toPys ds).map .list
  | .tup ds => (toPys ds).map .tuple
  | _ => none
def toPys : List D → Option (List PyData)
  | [] => some []
  | d :: ds => match toPy d with
    | some p => match toPys ds with
      | some ps => some (p :: ps)
      | none => none
    | none => none
end
mutual
theorem toPy_ok {K : PySem.W.Frag} {S : Wd} {m : Mu} (sa : Sta K S m) : ∀ (d : D) {v : V} {p : PyData}, Rep K S.i S.F d v → toPy d = some p → Dp K S.H v p
  | .non, _, _, r, h => by cases r; cases h; exact .non
  | .bl b, _, _, r, h => by cases r; cases h; exact .bl _
  | .int b, _, _, r, h => by cases r; cases h; exact .int _
  | .str b, _, _, r, h => by cases r; cases h; exact .str _
  | .lst ds, _, _, r, h => by
    cases r with
    | lst h1 h2 =>
      unfold toPy at h
      cases q : toPys ds with
      | none => rw [q] at h; cases h
      | some ps => rw [q] at h; cases h; exact .lst (SqL.ext' h1 sa.sub) (toPys_ok sa ds h2 q)
  | .tup ds, _, _, r, h => by
    cases r with
    | tup h1 h2 =>
      unfold toPy at h
      cases q : toPys ds with
      | none => rw [q] at h; cases h
      | some ps => rw [q] at h; cases h; exact .tup (SqT.ext' h1 sa.sub) (toPys_ok sa ds h2 q)
  | .obj _ _, _, _, r, h => by unfold toPy at h; cases h
  | .loc _, _, _, r, h => by unfold toPy at h; cases h
  | .val _, _, _, r, h => by unfold toPy at h; cases h
theorem toPys_ok {K : PySem.W.Frag} {S : Wd} {m : Mu} (sa : Sta K S m) : ∀ (ds : List D) {vs : List V} {ps : List PyData}, Reps K S.i S.F ds vs → toPys ds = some ps → DpAll K S.H vs ps
  | [], _, _, r, h => by cases r; cases h; exact .nil
  | d :: ds, _, _, r, h => by
    cases r with
    | cons h1 h2 =>
      unfold toPys at h
      cases q : toPy d with
      | none => rw [q] at h; cases h
      | some p =>
        cases q2 : toPys ds with
        | none => rw [q, q2] at h; cases h
        | some ps => rw [q, q2] at h; cases h; exact .cons (toPy_ok sa d h1 q) (toPys_ok sa ds h2 q2)
end
/-- a list of the store as data -/
def thaw1 (m : Mu) (d : D) : D := match seqL m d with
  | some ds => .lst ds
  | none => d
def pyOf (m : Mu) (d : D) : Option PyData := toPy (thaw1 m d)
theorem pyOf_ok {K : PySem.W.Frag} {S : Wd} {m : Mu} {d : D} {v : V} {p : PyData} (sa : Sta K S m) (r : Rep K S.i S.F d v) (h : pyOf m d = some p) : Dp K S.H v p := by
  unfold pyOf thaw1 at h
  cases q : seqL m d with
  | none => rw [q] at h; exact toPy_ok sa d r h
  | some ds =>
    rw [q] at h
    obtain ⟨a, xs, rfl, h1, h2⟩ := seqL_ok sa r q
    dsimp only at h
    unfold toPy at h
    cases q2 : toPys ds with
    | none => rw [q2] at h; cases h
    | some ps => rw [q2] at h; cases h; exact .lst h1 (toPys_ok sa ds h2 q2)
def gEqD (neg : Bool) : D2 := fun x y m => match pyOf m x, pyOf m y with
  | some d, some e => if SeqAt.shaped d && SeqAt.shaped e then .ok (.bl (neg ^^ PyData.eqv d e)) m else .stuck
  | _, _ => .stuck
theorem od_eqD (hu : X.A.units + 64 < cLine) : OD X (compareOp .Eq) (gEqD false) := by
  refine od_of (op_eqD hu) fun S m x y vx vy Q W sa rx ry p => ?_
  unfold gEqD at p
  split at p
  · rename_i d e e1 e2
    split at p
    · rename_i hs
      obtain ⟨h1, h2⟩ := Bool.and_eq_true_iff.mp hs
      refine ⟨d, e, pyOf_ok sa rx e1, pyOf_ok sa ry e2, h1, h2, ?_⟩
      rw [Bool.false_xor] at p
      exact Post.ok p (Stp.refl S) sa (.bl _)
    · exact p.elim
  · exact p.elim
theorem od_neD (hu : X.A.units + 64 < cLine) : OD X (compareOp .NotEq) (gEqD true) := by
  refine od_of (op_neD hu) fun S m x y vx vy Q W sa rx ry p => ?_
  unfold gEqD at p
  split at p
  · rename_i d e e1 e2
    split at p
    · rename_i hs
      obtain ⟨h1, h2⟩ := Bool.and_eq_true_iff.mp hs
      refine ⟨d, e, pyOf_ok sa rx e1, pyOf_ok sa ry e2, h1, h2, ?_⟩
      rw [Bool.true_xor] at p
      exact Post.ok p (Stp.refl S) sa (.bl _)
    · exact p.elim
  · exact p.elim
/-- scalars of one kind, and None beside them -/
def scEq : D → D → Option Bool
  | .non, .non => some true
  | .int i, .int j => some (decide (i = j))
  | .bl i, .bl j => some (i == j)
  | .str i, .str j => some (decide (i = j))
  | .non, .int _ => some false
  | .int _, .non => some false
  | .non, .bl _ => some false
  | .bl _, .non => some false
  | .non, .str _ => some false
  | .str _, .non => some false
  | .int _, .str _ => some false
  | .str _, .int _ => some false
  | .bl _, .str _ => some false
  | .str _, .bl _ => some false
  | _, _ => none
theorem scEq_ok {K : PySem.W.Frag} {i : List Addr} {F : Hp} {x y : D} {vx vy : V} {b : Bool} (rx : Rep K i F x vx) (ry : Rep K i F y vy) (h : scEq x y = some b) : scal vx vy = true ∧ decide (vx = vy) = b := by
  cases rx <;> cases ry <;> first
    | (cases h; exact ⟨rfl, rfl⟩)
    | (cases h; refine ⟨rfl, ?_⟩; first | exact dec_bl | simp)
    | (simp [scEq] at h)
def gEqS (neg : Bool) : D2 := fun x y m => match scEq x y with
  | some b => .ok (.bl (neg ^^ b)) m
  | none => .stuck
theorem od_eqS : OD X (compareOp .Eq) (gEqS false) := by
  refine od_of op_eq fun S m x y vx vy Q W sa rx ry p => ?_
  unfold gEqS at p
  split at p
  · rename_i b e
    obtain ⟨h1, h2⟩ := scEq_ok rx ry e
    refine ⟨h1, ?_⟩
    rw [h2]
    rw [Bool.false_xor] at p
    exact Post.ok p (Stp.refl S) sa (.bl _)
  · exact p.elim
theorem od_neS : OD X (compareOp .NotEq) (gEqS true) := by
  refine od_of op_ne fun S m x y vx vy Q W sa rx ry p => ?_
  unfold gEqS at p
  split at p
  · rename_i b e
    obtain ⟨h1, h2⟩ := scEq_ok rx ry e
    refine ⟨h1, ?_⟩
    rw [h2]
    rw [Bool.true_xor] at p
    exact Post.ok p (Stp.refl S) sa (.bl _)
  · exact p.elim
def gEq : D2 := orD (gEqS false) (gEqD false)
def gNe : D2 := orD (gEqS true) (gEqD true)
theorem od_eq (hu : X.A.units + 64 < cLine) : OD X (compareOp .Eq) gEq := od_or od_eqS (od_eqD hu)
theorem od_ne (hu : X.A.units + 64 < cLine) : OD X (compareOp .NotEq) gNe := od_or od_neS (od_neD hu)
/-! ### in -/
def toV : D → Option V
  | .non => some .non
  | .bl b => some (.bl b)
  | .int b => some (.int b)
  | .str b => some (.str b)
  | _ => none
def toVs : List D → Option (List V)
  | [] => some []
  | d :: ds => match toV d with
    | some v => match toVs ds with
      | some vs => some (v :: vs)
      | none => none
    | none => none
theorem toV_ok {K : PySem.W.Frag} {i : List Addr} {F : Hp} {x : D} {vx v : V} (rx : Rep K i F x vx) (h : toV x = some v) : vx = v ∧ flatV v = true := by
  cases rx <;> first | (cases h; exact ⟨rfl, rfl⟩) | (simp [toV] at h)
theorem toVs_ok {K : PySem.W.Frag} {i : List Addr} {F : Hp} : ∀ {xs : List D} {vx vs : List V}, Reps K i F xs vx → toVs xs = some vs → vx = vs ∧ vs.all flatV = true
  | [], _, _, r, h => by cases r; cases h; exact ⟨rfl, rfl⟩
  | d :: ds, _, _, r, h => by
    cases r with
    | cons h1 h2 =>
      unfold toVs at h
      cases q : toV d with
      | none => rw [q] at h; cases h
      | some p =>
        cases q2 : toVs ds with
        | none => rw [q, q2] at h; cases h
        | some ps =>
          rw [q, q2] at h; cases h
          obtain ⟨e1, e2⟩ := toV_ok h1 q
          obtain ⟨e3, e4⟩ := toVs_ok h2 q2
          subst e1 e3
          exact ⟨rfl, by rw [List.all_cons, e2, e4]; rfl⟩
def seqA (m : Mu) (d : D) : Option (List D) := match seqL m d with
  | some ds => some ds
  | none => seqT d
theorem seqA_ok {K : PySem.W.Frag} {S : Wd} {m : Mu} {d : D} {v : V} {ds : List D} (sa : Sta K S m) (r : Rep K S.i S.F d v) (h : seqA m d = some ds) : ∃ a xs, v = .ref a ∧ (SqL K S.H a xs ∨ SqT K S.H a xs) ∧ Reps K S.i S.F ds xs := by
  unfold seqA at h
  split at h
  · rename_i e
    cases h
    obtain ⟨a, xs, h1, h2, h3⟩ := seqL_ok sa r e
    exact ⟨a, xs, h1, .inl h2, h3⟩
  · obtain ⟨a, xs, h1, h2, h3⟩ := seqT_ok sa r h
    exact ⟨a, xs, h1, .inr h2, h3⟩
/-- x in a list or tuple of scalars -/
def gInQ (neg : Bool) : D2 := fun x y m => match toV x, (seqA m y).bind toVs with
  | some v, some vs => .ok (.bl (neg ^^ inV v vs)) m
  | _, _ => .stuck
theorem gInQ_ok {neg : Bool} {K : PySem.W.Frag} {S : Wd} {m : Mu} {x y : D} {vx vy : V} {Q : VK} {W : XK} (sa : Sta K S m) (rx : Rep K S.i S.F x vx) (ry : Rep K S.i S.F y vy) (p : PostD K S (gInQ neg x y m) Q W) : rIn K neg vx vy S.H Q := by
  unfold gInQ at p
  split at p
  · rename_i v vs e1 e2
    obtain ⟨h1, h2⟩ := toV_ok rx e1
    subst h1
    cases q : seqA m y with
    | none => rw [q] at e2; cases e2
    | some ds =>
      rw [q] at e2
      obtain ⟨a, xs, h3, h4, h5⟩ := seqA_ok sa ry q
      obtain ⟨h6, h7⟩ := toVs_ok h5 e2
      subst h6
      refine ⟨a, xs, h3, h4, h2, h7, ?_⟩
      cases neg with
      | false => rw [Bool.false_xor] at p; exact Post.ok p (Stp.refl S) sa (.bl _)
      | true => rw [Bool.true_xor] at p; exact Post.ok p (Stp.refl S) sa (.bl _)
  · exact p.elim
theorem od_inQ : OD X (compareOp .In) (gInQ false) := od_of op_in_seq fun S m x y vx vy Q W sa rx ry p => gInQ_ok sa rx ry p
theorem od_notInQ : OD X (compareOp .NotIn) (gInQ true) := od_of op_notIn_seq fun S m x y vx vy Q W sa rx ry p => gInQ_ok sa rx ry p
/-- a text in a text -/
def occurs (i j : Str) : Bool := !(Builtin.Str.occurrences j i 0 j.length 1).isEmpty
def gInS (neg : Bool) : D2 := fun x y m => match x with
  | .str a => match y with
    | .str b => .ok (.bl (neg ^^ occurs a b)) m
    | _ => .stuck
  | _ => .stuck
theorem od_inS : OD X (compareOp .In) (gInS false) := by
  refine od_of op_in_str fun S m x y vx vy Q W sa rx ry p => ?_
  unfold gInS at p
  cases rx with
  | str i =>
    cases ry with
    | str j =>
      dsimp only at p
      rw [Bool.false_xor] at p
      exact ⟨i, j, rfl, rfl, Post.ok p (Stp.refl S) sa (.bl _)⟩
    | _ => exact p.elim
  | _ => exact p.elim
theorem od_notInS : OD X (compareOp .NotIn) (gInS true) := by
  refine od_of op_notin_str fun S m x y vx vy Q W sa rx ry p => ?_
  unfold gInS at p
  cases rx with
  | str i =>
    cases ry with
    | str j =>
      dsimp only at p
      rw [Bool.true_xor] at p
      exact ⟨i, j, rfl, rfl, Post.ok p (Stp.refl S) sa (.bl _)⟩
    | _ => exact p.elim
  | _ => exact p.elim
abbrev gIn : D2 := orD (gInS false) (gInQ false)
abbrev gNotIn : D2 := orD (gInS true) (gInQ true)
theorem od_in : OD X (compareOp .In) gIn := od_or od_inS od_inQ
theorem od_notIn : OD X (compareOp .NotIn) gNotIn := od_or od_notInS od_notInQ

/-! ### calls of built-ins by values -/
def OC (X : Cx) (f : Value) (g : DFn) : Prop :=
  ∀ (pins : List (Addr × Obj)) (s : Shared) (σ : L2.St) (S : Wd) (m : Mu) (ds : List D) (xs : List V) (us : List Value) (Q : VK), Sta X.K S m → Reps X.K S.i S.F ds xs → Vals xs us → Inv X pins σ S.H s →
    PostD X.K S (g ds m) Q (fun c d H => Fly X c d σ H) → wpAny (model X.prog X.w) X.A (call f us) (EP X pins σ Q) X.xe s
theorem oc_of {f : Value} {g : DFn} {r : List V → Hp → VK → Prop} (ho : CallR X f r) (k : ∀ (S : Wd) (m : Mu) (ds : List D) (xs : List V) (Q : VK) (W : XK), Sta X.K S m → Reps X.K S.i S.F ds xs → PostD X.K S (g ds m) Q W → r xs S.H Q) : OC X f g :=
  fun pins s σ S m ds xs us Q sa rs rv I p => ho pins s σ S.H xs us Q I rv (k S m ds xs Q _ sa rs p)
def orF (f g : DFn) : DFn := fun ds m => match f ds m with
  | .stuck => g ds m
  | r => r
theorem oc_or {f : Value} {g h : DFn} (a : OC X f g) (b : OC X f h) : OC X f (orF g h) := by
  intro pins s σ S m ds xs us Q sa rs rv I p
  unfold orF at p
  split at p
  · exact b pins s σ S m ds xs us Q sa rs rv I p
  · exact a pins s σ S m ds xs us Q sa rs rv I p
variable {x : Str} {p pos : Pos} {e : Expr} {es : List Expr} {t : DA} {id T : String} {g : DFn}
theorem pd_bc (ho : OC X (.builtin id) g) (hm : X.mg x = none) (hv : bootBuiltins x = some (.builtin id)) (ha : PDA X (e :: es) t) (hg : Gl X x := by rfl) (hn : x ≠ "__name__" := by decide) (hdb : (x == ("__debug__" : Str)) = false := by decide)
    (he : starEach (e :: es) X.env = (false, eval e X.env) :: starEach es X.env := by exact se_cons _ _ _ rfl) (hpl : (backTo pos (starEach es X.env)).any (·.1) = false := by exact se_any _ _ _ rfl) : PDE X (.Call (.Name x p) (e :: es) [] pos) (dFun g t) := by
  intro S r m σ Q sa re q pins s I
  refine wpAny_Call_Name_kw (ld_blt I hg hm hv ?_ hn hdb)
  refine PyProof.Rows.callWith_builtin1 (thn (ha.run sa re q I pos) ?_) he hpl
  rintro us s1 ⟨xs, ds, m1, T, st, sa1, rds, rv, I1, q1⟩
  exact ho pins s1 σ T m1 ds xs us Q sa1 rds rv I1 q1
theorem pd_bt (ho : OC X (.type T) g) (hm : X.mg x = none) (hv : bootBuiltins x = some (.type T)) (ha : PDA X (e :: es) t) (hg : Gl X x := by rfl) (hn : x ≠ "__name__" := by decide) (hdb : (x == ("__debug__" : Str)) = false := by decide)
    (he : starEach (e :: es) X.env = (false, eval e X.env) :: starEach es X.env := by exact se_cons _ _ _ rfl) (hpl : (backTo pos (starEach es X.env)).any (·.1) = false := by exact se_any _ _ _ rfl) : PDE X (.Call (.Name x p) (e :: es) [] pos) (dFun g t) := by
  intro S r m σ Q sa re q pins s I
  refine wpAny_Call_Name_kw (ld_blt I hg hm hv ?_ hn hdb)
  refine PyProof.Rows.callWith_type1 (thn (ha.run sa re q I pos) ?_) he hpl
  rintro us s1 ⟨xs, ds, m1, T, st, sa1, rds, rv, I1, q1⟩
  exact ho pins s1 σ T m1 ds xs us Q sa1 rds rv I1 q1
theorem reps1 {K : PySem.W.Frag} {i : List Addr} {F : Hp} {d : D} {xs : List V} (r : Reps K i F [d] xs) : ∃ v, xs = [v] ∧ Rep K i F d v := by
  cases r with
  | cons h r => cases r; exact ⟨_, rfl, h⟩
theorem reps2 {K : PySem.W.Frag} {i : List Addr} {F : Hp} {d e : D} {xs : List V} (r : Reps K i F [d, e] xs) : ∃ v w, xs = [v, w] ∧ Rep K i F d v ∧ Rep K i F e w := by
  cases r with
  | cons h r => obtain ⟨w, rfl, h2⟩ := reps1 r; exact ⟨_, w, rfl, h, h2⟩
def gAbs : DFn := fun ds m => match ds with
  | [.int i] => .ok (.int (if i < 0 then -i else i)) m
  | _ => .stuck
theorem oc_abs : OC X (.builtin "abs") gAbs := by
  refine oc_of call_abs fun S m ds xs Q W sa rs p => ?_
  unfold gAbs at p
  split at p
  · obtain ⟨v, rfl, r⟩ := reps1 rs
    cases r
    exact ⟨_, rfl, Post.ok p (Stp.refl S) sa (.int _)⟩
  · exact p.elim
def gInt : DFn := fun ds m => match ds with
  | [.int i] => .ok (.int i) m
  | [.bl b] => .ok (.int (if b then 1 else 0)) m
  | _ => .stuck
theorem oc_int : OC X (.type "int") gInt := by
  refine oc_of call_int1 fun S m ds xs Q W sa rs p => ?_
  unfold gInt at p
  split at p
  · obtain ⟨v, rfl, r⟩ := reps1 rs
    cases r
    exact .inl ⟨_, rfl, Post.ok p (Stp.refl S) sa (.int _)⟩
  · obtain ⟨v, rfl, r⟩ := reps1 rs
    cases r
    exact .inr ⟨_, rfl, Post.ok p (Stp.refl S) sa (.int _)⟩
  · exact p.elim
def gBool : DFn := fun ds m => match ds with
  | [.int i] => .ok (.bl (i != 0)) m
  | [.bl b] => .ok (.bl b) m
  | _ => .stuck
theorem oc_bool : OC X (.type "bool") gBool := by
  refine oc_of call_bool1 fun S m ds xs Q W sa rs p => ?_
  unfold gBool at p
  split at p
  · obtain ⟨v, rfl, r⟩ := reps1 rs
    cases r
    exact .inl ⟨_, rfl, Post.ok p (Stp.refl S) sa (.bl _)⟩
  · obtain ⟨v, rfl, r⟩ := reps1 rs
    cases r
    exact .inr ⟨_, rfl, Post.ok p (Stp.refl S) sa (.bl _)⟩
  · exact p.elim
def gMin2 : DFn := fun ds m => match ds with
  | [.int i, .int j] => .ok (.int (if j < i then j else i)) m
  | _ => .stuck
theorem oc_min2 (hc : X.calm = true) : OC X (.builtin "min") gMin2 := by
  refine oc_of (call_min2 hc) fun S m ds xs Q W sa rs p => ?_
  unfold gMin2 at p
  split at p
  · obtain ⟨v, w, rfl, r, r2⟩ := reps2 rs
    cases r; cases r2
    exact ⟨_, _, rfl, Post.ok p (Stp.refl S) sa (.int _)⟩
  · exact p.elim
def gMax2 : DFn := fun ds m => match ds with
  | [.int i, .int j] => .ok (.int (if j > i then j else i)) m
  | _ => .stuck
theorem oc_max2 (hc : X.calm = true) : OC X (.builtin "max") gMax2 := by
  refine oc_of (call_max2 hc) fun S m ds xs Q W sa rs p => ?_
  unfold gMax2 at p
  split at p
  · obtain ⟨v, w, rfl, r, r2⟩ := reps2 rs
    cases r; cases r2
    exact ⟨_, _, rfl, Post.ok p (Stp.refl S) sa (.int _)⟩
  · exact p.elim
def gStrI : DFn := fun ds m => match ds with
  | [.int i] => if i.natAbs.log2 < 1920 then .ok (.str (toString i)) m else .stuck
  | _ => .stuck
theorem oc_strI : OC X (.type "str") gStrI := by
  refine oc_of call_str_int fun S m ds xs Q W sa rs p => ?_
  unfold gStrI at p
  split at p
  · split at p
    · rename_i h
      obtain ⟨v, rfl, r⟩ := reps1 rs
      cases r
      exact ⟨_, rfl, h, Post.ok p (Stp.refl S) sa (.str _)⟩
    · exact p.elim
  · exact p.elim
def gLen : DFn := fun ds m => match ds with
  | [.str x] => if x.length ≤ sizeLine then .ok (.int x.length) m else .stuck
  | [d] => match seqA m d with
    | some ds => .ok (.int ds.length) m
    | none => .stuck
  | _ => .stuck
theorem oc_len : OC X (.builtin "len") gLen := by
  refine oc_of (call_len_str.or call_len_seq) fun S m ds xs Q W sa rs p => ?_
  unfold gLen at p
  split at p
  · split at p
    · rename_i h
      obtain ⟨v, rfl, r⟩ := reps1 rs
      cases r
      exact .inl ⟨_, rfl, h, Post.ok p (Stp.refl S) sa (.int _)⟩
    · exact p.elim
  · split at p
    · rename_i ds' e
      obtain ⟨v, rfl, r⟩ := reps1 rs
      obtain ⟨a, ys, rfl, h1, h2⟩ := seqA_ok sa r e
      refine .inr ⟨a, ys, rfl, h1, ?_⟩
      rw [h2.len] at p
      exact Post.ok p (Stp.refl S) sa (.int _)
    · exact p.elim
  · exact p.elim
/-- list(xs): a new one, never changed -/
def gList : DFn := fun ds m => match ds with
  | [d] => match seqA m d with
    | some es => .ok (.lst es) m
    | none => .stuck
  | _ => .stuck
theorem oc_list : OC X (.type "list") gList := by
  refine oc_of call_list_of fun S m ds xs Q W sa rs p => ?_
  unfold gList at p
  split at p
  · split at p
    · rename_i es e
      obtain ⟨v, rfl, r⟩ := reps1 rs
      obtain ⟨a, ys, rfl, h1, h2⟩ := seqA_ok sa r e
      refine ⟨a, ys, rfl, h1, fun l hl => ?_⟩
      have st := Stp.new sa (o := .lst ys) hl
      exact p (.ref l) (S.new l (.lst ys)) st (sa.new hl) (.lst (.inl (.inl upd_same)) (h2.stp st))
    · exact p.elim
  · exact p.elim
/-- list(xs): one of the store -/
def gListM : DFn := fun ds m => match ds with
  | [d] => match seqA m d with
    | some es => .ok (.loc m.length) (m ++ [.lst es])
    | none => .stuck
  | _ => .stuck
theorem oc_listM : OC X (.type "list") gListM := by
  refine oc_of call_list_of fun S m ds xs Q W sa rs p => ?_
  unfold gListM at p
  split at p
  · split at p
    · rename_i es e
      obtain ⟨v, rfl, r⟩ := reps1 rs
      obtain ⟨a, ys, rfl, h1, h2⟩ := seqA_ok sa r e
      refine ⟨a, ys, rfl, h1, fun l hl => ?_⟩
      have st := Stp.tok sa (o := .lst ys) hl
      refine p (.ref l) (S.tok l (.lst ys)) st (sa.tok hl (q := .lst es) ⟨ys, upd_same, h2.stp st⟩) (.loc ?_)
      show (S.i ++ [l])[m.length]? = some l
      rw [← sa.len, List.getElem?_append_right (Nat.le_refl _), Nat.sub_self]
      rfl
    · exact p.elim
  · exact p.elim
def toBs : List D → Option (List Bool)
  | [] => some []
  | .bl b :: ds => match toBs ds with
    | some bs => some (b :: bs)
    | none => none
  | _ => none
theorem toBs_ok {K : PySem.W.Frag} {i : List Addr} {F : Hp} : ∀ {ds : List D} {xs : List V} {bs : List Bool}, Reps K i F ds xs → toBs ds = some bs → xs = bs.map V.bl
  | [], _, _, r, h => by cases r; cases h; rfl
  | d :: ds, _, _, r, h => by
    cases r with
    | cons h1 h2 =>
      cases h1 with
      | bl b =>
        unfold toBs at h
        cases q : toBs ds with
        | none => rw [q] at h; cases h
        | some bs => rw [q] at h; cases h; rw [toBs_ok h2 q]; rfl
      | _ => simp [toBs] at h
def gAll : DFn := fun ds m => match ds with
  | [d] => match (seqL m d).bind toBs with
    | some bs => .ok (.bl (bs.all _root_.id)) m
    | none => .stuck
  | _ => .stuck
def gAny : DFn := fun ds m => match ds with
  | [d] => match (seqL m d).bind toBs with
    | some bs => .ok (.bl (bs.any _root_.id)) m
    | none => .stuck
  | _ => .stuck
theorem oc_all (hc : X.calm = true) : OC X (.builtin "all") gAll := by
  refine oc_of (cr_all hc) fun S m ds xs Q W sa rs p => ?_
  unfold gAll at p
  split at p
  · rename_i d
    cases q : seqL m d with
    | none => rw [q] at p; exact (show False from p).elim
    | some es =>
      rw [q] at p
      cases q2 : toBs es with
      | none => rw [show (some es).bind toBs = toBs es from rfl, q2] at p; exact (show False from p).elim
      | some bs =>
        rw [show (some es).bind toBs = toBs es from rfl, q2] at p
        obtain ⟨v, rfl, r⟩ := reps1 rs
        obtain ⟨a, ys, rfl, h1, h2⟩ := seqL_ok sa r q
        have := toBs_ok h2 q2
        subst this
        exact ⟨a, bs, rfl, h1, Post.ok p (Stp.refl S) sa (.bl _)⟩
  · exact p.elim
theorem oc_any (hc : X.calm = true) : OC X (.builtin "any") gAny := by
  refine oc_of (cr_any hc) fun S m ds xs Q W sa rs p => ?_
  unfold gAny at p
  split at p
  · rename_i d
    cases q : seqL m d with
    | none => rw [q] at p; exact (show False from p).elim
    | some es =>
      rw [q] at p
      cases q2 : toBs es with
      | none => rw [show (some es).bind toBs = toBs es from rfl, q2] at p; exact (show False from p).elim
      | some bs =>
        rw [show (some es).bind toBs = toBs es from rfl, q2] at p
        obtain ⟨v, rfl, r⟩ := reps1 rs
        obtain ⟨a, ys, rfl, h1, h2⟩ := seqL_ok sa r q
        have := toBs_ok h2 q2
        subst this
        exact ⟨a, bs, rfl, h1, Post.ok p (Stp.refl S) sa (.bl _)⟩
  · exact p.elim
def toIs : List D → Option (List Int)
  | [] => some []
  | .int b :: ds => match toIs ds with
    | some bs => some (b :: bs)
    | none => none
  | _ => none
theorem toIs_ok {K : PySem.W.Frag} {i : List Addr} {F : Hp} : ∀ {ds : List D} {xs : List V} {bs : List Int}, Reps K i F ds xs → toIs ds = some bs → xs = bs.map V.int
  | [], _, _, r, h => by cases r; cases h; rfl
  | d :: ds, _, _, r, h => by
    cases r with
    | cons h1 h2 =>
      cases h1 with
      | int b =>
        unfold toIs at h
        cases q : toIs ds with
        | none => rw [q] at h; cases h
        | some bs => rw [q] at h; cases h; rw [toIs_ok h2 q]; rfl
      | _ => simp [toIs] at h
def minI : List Int → Int
  | [] => 0
  | x :: xs => xs.foldl min x
def maxI : List Int → Int
  | [] => 0
  | x :: xs => xs.foldl max x
end
end DL

namespace DL
open PySem PySem.Spec PyProof.Rows L2
variable [LamTab]
section
variable {X : Cx}
/-! ### subscripts, slices -/
def gIx : D2 := fun x i m => match i with
  | .int i => match x with
    | .str z => if z.length ≤ sizeLine then (match atI z.cps.toList i with
      | some c => .ok (.str ⟨#[c]⟩) m
      | none => .stuck) else .stuck
    | x => match seqA m x with
      | some ds => match atI ds i with
        | some d => .ok d m
        | none => .stuck
      | none => .stuck
  | _ => .stuck
theorem atI_reps {K : PySem.W.Frag} {ι : List Addr} {F : Hp} {ds : List D} {xs : List V} {i : Int} {d : D} (r : Reps K ι F ds xs) (h : atI ds i = some d) : ∃ v, atI xs i = some v ∧ Rep K ι F d v := by
  unfold atI at h ⊢
  rw [← r.len]
  cases q : ixN ds.length i with
  | none => rw [q] at h; cases h
  | some j => rw [q] at h; exact r.get h
variable {a b e : Expr} {es : List Expr} {ta tb : DE} {t : DA} {pos : Pos}
theorem pd_ix (ha : PDE X a ta) (hb : PDE X b tb) (hs : PlainIx b := by exact fun _ _ => rfl) : PDE X (.Subscript a b pos) (dBin gIx ta tb) := by
  intro S r m σ Q sa re p pins s I
  refine Subscript_ (thn (ha.run sa re p I) ?_)
  rintro v s1 ⟨x, d, m1, T, st, sa1, rd, r1, I1, q⟩
  refine thn (hb.run sa1 (re.stp st) q I1) ?_
  rintro u s2 ⟨y, d', m2, U, st2, sa2, rd2, r2, I2, q2⟩
  refine ix_seq a b pins s2 σ U.H x y v u Q I2 r1 r2 ?_ (hs _ _)
  unfold gIx at q2
  split at q2
  · cases rd2
    split at q2
    · cases (rd.stp st2)
      split at q2
      · rename_i hz
        split at q2
        · rename_i c ec
          exact .inr (.inr ⟨_, _, c, rfl, rfl, hz, ec, Post.ok q2 (Stp.refl U) sa2 (.str _)⟩)
        · exact q2.elim
      · exact q2.elim
    · split at q2
      · rename_i ds e1
        split at q2
        · rename_i dd e2
          obtain ⟨p, xs, rfl, h1, h2⟩ := seqA_ok sa2 (rd.stp st2) e1
          obtain ⟨vv, h3, h4⟩ := atI_reps h2 e2
          rcases h1 with h1 | h1
          · exact .inl ⟨p, xs, _, vv, rfl, rfl, h1, h3, Post.ok q2 (Stp.refl U) sa2 h4⟩
          · exact .inr (.inl ⟨p, xs, _, vv, rfl, rfl, h1, h3, Post.ok q2 (Stp.refl U) sa2 h4⟩)
        · exact q2.elim
      · exact q2.elim
  · exact q2.elim
/-- a part of a slice -/
abbrev DO := En → Mu → Res (Option Int)
abbrev RO : Wd → Option Int → Option Int → Prop := fun _ a b => a = b
def WO (X : Cx) (e : Option Expr) : TO := fun σ H Q => ∀ (pins : List (Addr × Obj)) (s : Shared) (u : TO), PO X e u → u σ H Q → True
def PDO (X : Cx) (e : Option Expr) (t : DO) : Prop := ∃ u : TO, PO X e u ∧ ∀ S r m σ Q, Sta X.K S m → RelE X.K S r σ → Post RO X.K S (t r m) Q (fun c d H => Fly X c d σ H) → u σ S.H Q
def dNoPart : DO := fun _ m => .ok none m
def dPart (t : DE) : DO := fun e m => (t e m).bind fun d m1 => match d with
  | .int i => .ok (some i) m1
  | _ => .stuck
theorem pdo_none : PDO X none dNoPart := ⟨_, po_none, fun S r m σ Q sa re p => Post.ok p (Stp.refl S) sa rfl⟩
theorem pdo_some (h : PDE X e ta) : PDO X (some e) (dPart ta) := ⟨_, po_some (mxE X e), fun S r m σ Q sa re p => by
  refine h S r m σ _ sa re (Post.bindI p fun d m1 v T st sa1 rd q => ?_)
  cases rd with
  | int i => exact ⟨i, rfl, Post.ok q (Stp.refl T) sa1 rfl⟩
  | _ => exact q.elim⟩
def cutD (xs : List D) (lo hi : Option Int) : List D := (xs.drop (HT.sIx xs.length 0 lo)).take (HT.sIx xs.length xs.length hi - HT.sIx xs.length 0 lo)
theorem cut_reps {K : PySem.W.Frag} {ι : List Addr} {F : Hp} {ds : List D} {xs : List V} (r : Reps K ι F ds xs) (lo hi : Option Int) : Reps K ι F (cutD ds lo hi) (cutV xs lo hi) := by
  unfold cutD cutV
  rw [r.len]
  exact (r.drop _).take _
/-- a slice of a list: a new list, never changed -/
def dSl (t : DE) (lo hi : DO) : DE := fun e m => (t e m).bind fun d m1 => (lo e m1).bind fun l m2 => (hi e m2).bind fun h m3 => match seqL m3 d with
  | some ds => .ok (.lst (cutD ds l h)) m3
  | none => .stuck
theorem pd_sl {lo hi : Option Expr} {tl th : DO} {p2 : Pos} (ha : PDE X a ta) (hl : PDO X lo tl) (hh : PDO X hi th) : PDE X (.Subscript a (.Slice lo hi none p2) pos) (dSl ta tl th) := by
  obtain ⟨ul, hl1, hl2⟩ := hl
  obtain ⟨uh, hh1, hh2⟩ := hh
  refine pd_of (pe_slice sl_list (mxE X a) hl1 hh1) fun S r m σ Q sa re p => ?_
  refine ha S r m σ _ sa re (Post.bindI p fun d m1 v T st sa1 rd q => ?_)
  refine hl2 T r m1 σ _ sa1 (re.stp st) (Post.bindI q fun l m2 l' U st2 sa2 rl q2 => ?_)
  have rl : l = l' := rl
  subst rl
  refine hh2 U r m2 σ _ sa2 ((re.stp st).stp st2) (Post.bindI q2 fun h m3 h' Y st3 sa3 rh q3 => ?_)
  have rh : h = h' := rh
  subst rh
  split at q3
  · rename_i ds e1
    obtain ⟨p, xs, rfl, h1, h2⟩ := seqL_ok sa3 ((rd.stp st2).stp st3) e1
    refine ⟨p, xs, rfl, h1, fun n hn => ?_⟩
    have st4 := Stp.new sa3 (o := .lst (cutV xs l h)) hn
    exact q3 (.ref n) (Y.new n (.lst (cutV xs l h))) st4 (sa3.new hn) (.lst (.inl (.inl upd_same)) ((cut_reps h2 l h).stp st4))
  · exact q3.elim

/-! ### statements -/
theorem RelE.start {K : PySem.W.Frag} {S : Wd} {e : En} {σ : L2.St} (r : RelE K S e σ) : RelE K S e σ := r
def dSeq (t u : DS) : DS := fun e m => match t e m with
  | .nx e1 m1 => u e1 m1
  | r => r
def dSkip : DS := fun e m => .nx e m
variable {st : Stmt} {rest sts stt : List Stmt} {u w : DS} {tt : DT}
theorem pds_nil : PDSs X [] dSkip := fun S r m σ N sa re p pins s I => (pss_nil (X := X)).run pins s σ S.H N I (p σ S (Stp.refl S) sa re)
theorem pds_cons (h1 : PDS X st u) (h2 : PDSs X rest w) : PDSs X (st :: rest) (dSeq u w) := by
  intro S r m σ N sa re p pins s I
  refine (pss_cons (mxS X st) (mxSs X rest)).run pins s σ S.H N I ?_
  refine h1 S r m σ _ sa re ?_
  unfold dSeq at p
  cases q : u r m with
  | nx e1 m1 =>
    rw [q] at p
    exact fun σ1 T st1 sa1 re1 => h2 T e1 m1 σ1 N sa1 re1 (PostS.step st1 p)
  | stuck => rw [q] at p; exact p
  | rt d m1 => rw [q] at p; exact p
  | bk e1 m1 => rw [q] at p; exact p
  | ct e1 m1 => rw [q] at p; exact p
  | exc C fs e1 m1 => rw [q] at p; exact p
theorem pds_one (h1 : PDS X st u) : PDSs X [st] u := fun S r m σ N sa re p pins s I => (pss_one (mxS X st)).run pins s σ S.H N I (h1 S r m σ N sa re p)
/-- an expression's answer in a statement -/
def rsOf (e : En) (r : Res D) (k : D → Mu → RS) : RS := match r with
  | .stuck => .stuck
  | .ok d m => k d m
  | .exc C fs m => .exc C fs e m
theorem PDE.stm {S : Wd} {e : En} {r : Res D} {k : D → Mu → RS} {N : Ends} {σ : L2.St} (re : RelE X.K S e σ) (p : PostS X.K S (rsOf e r k) N (Fly X)) {Q : VK}
    (h : ∀ d m v T, Stp S T → Sta X.K T m → Rep X.K T.i T.F d v → PostS X.K T (k d m) N (Fly X) → Q v T.H) : PostD X.K S r Q (fun c d H => Fly X c d σ H) := by
  cases r with
  | stuck => exact p
  | ok d m => exact fun v T st sa rd => h d m v T st sa rd (PostS.step (r := k d m) st p)
  | exc C fs m => exact fun dd vs T st hn sa h1 h2 => p dd vs σ T st hn sa (re.stp st) h1 h2
def dRet (t : DE) : DS := fun e m => rsOf e (t e m) fun d m1 => .rt d m1
theorem pds_ret (ha : PDE X a ta) : PDS X (.Return (some a) pos) (dRet ta) :=
  ps_of (ps_ret (mxE X a)) fun S r m σ N sa re p => ha S r m σ _ sa re (PDE.stm re p fun d m1 v T st sa1 rd q => q v T (Stp.refl T) sa1 rd)
theorem pds_retN : PDS X (.Return none pos) (fun _ m => .rt .non m) := ps_of ps_retN fun S r m σ N sa re p => p .non S (Stp.refl S) sa .non
theorem pds_pass : PDS X (.Pass pos) dSkip := ps_of ps_pass fun S r m σ N sa re p => p σ S (Stp.refl S) sa re
theorem pds_break : PDS X (.Break pos) (fun e m => .bk e m) := ps_of ps_break fun S r m σ N sa re p => p σ S (Stp.refl S) sa re
theorem pds_continue : PDS X (.Continue pos) (fun e m => .ct e m) := ps_of ps_continue fun S r m σ N sa re p => p σ S (Stp.refl S) sa re
def dStuck : DS := fun _ _ => .stuck
theorem pds_stuck : PDS X st dStuck := fun S r m σ N sa re p => p.elim
def dDrop (t : DE) : DS := fun e m => rsOf e (t e m) fun _ m1 => .nx e m1
theorem pds_expr (ha : PDE X a ta) (hs : swapsWith a none pos.line X.env = pure false := by rfl) : PDS X (.Expr a pos) (dDrop ta) :=
  ps_of (ps_expr (mxE X a) hs) fun S r m σ N sa re p => ha S r m σ _ sa re (PDE.stm re p fun d m1 v T st sa1 rd q => q σ T (Stp.refl T) sa1 (re.stp st))
def dSet (i : Nat) (t : DE) : DS := fun e m => rsOf e (t e m) fun d m1 => .nx (e.set i (some d)) m1
theorem pds_set {i : Nat} {x : Str} {pos' : Pos} (ha : PDE X a ta) (hN : X.N.Nodup) (hi : X.N[i]? = some x := by rfl) (hx : Loc X.env.scope x := by first | exact Or.inl rfl | exact Or.inr rfl) (hs : swapsWith a (some (.Name x pos')) pos.line X.env = pure false := by rfl)
    (hf : X.fn x = true ∨ X.env.scope.names.lookup x = some .local := by first | exact .inl rfl | exact .inr rfl | assumption) : PDS X (.Assign [.Name x pos'] a pos) (dSet i ta) :=
  ps_of (ps_set hN hi hx (mxE X a) hs hf) fun S r m σ N sa re p => ha S r m σ _ sa re (PDE.stm re p fun d m1 v T st sa1 rd q => q _ T (Stp.refl T) sa1 ((re.stp st).set i rd))
def rsOfB (e : En) (r : Res Bool) (k : Bool → Mu → RS) : RS := match r with
  | .stuck => .stuck
  | .ok d m => k d m
  | .exc C fs m => .exc C fs e m
theorem PDT.stm {S : Wd} {e : En} {r : Res Bool} {k : Bool → Mu → RS} {N : Ends} {σ : L2.St} (re : RelE X.K S e σ) (p : PostS X.K S (rsOfB e r k) N (Fly X)) {Q : Bool → Hp → Prop}
    (h : ∀ d m T, Stp S T → Sta X.K T m → PostS X.K T (k d m) N (Fly X) → Q d T.H) : PostB X.K S r Q (fun c d H => Fly X c d σ H) := by
  cases r with
  | stuck => exact p
  | ok d m =>
    intro v T st sa rd
    cases (show d = v from rd)
    exact h d m T st sa (PostS.step (r := k d m) st p)
  | exc C fs m => exact fun dd vs T st hn sa h1 h2 => p dd vs σ T st hn sa (re.stp st) h1 h2
def dIfS (t : DT) (u w : DS) : DS := fun e m => rsOfB e (t e m) fun b m1 => if b then u e m1 else w e m1
theorem pds_if {c : Expr} (hc : PDT X c tt) (h1 : PDSs X sts u) (h2 : PDSs X stt w) : PDS X (.If c sts stt pos) (dIfS tt u w) := by
  refine ps_of (ps_if (mxT X c) (mxSs X sts) (mxSs X stt)) fun S r m σ N sa re p => hc S r m σ _ sa re (PDT.stm re p fun d m1 T st sa1 q => ?_)
  cases d with
  | true => exact iteT (h1 T r m1 σ N sa1 (re.stp st) q)
  | false => exact iteF (h2 T r m1 σ N sa1 (re.stp st) q)

/-! ### targets -/
abbrev DG := D → En → Option En
def WG (X : Cx) (tg : Expr) : TG := fun v σ H Q => ∀ (pins : List (Addr × Obj)) (s : Shared) (u : Value), Inv X pins σ H s → RelV v u → wpAny (model X.prog X.w) X.A (assign tg X.env u) (fun _ s' => ∃ σ' H', Inv X pins σ' H' s' ∧ Q σ' H') X.xe s
def WGs (X : Cx) (ts : List Expr) : TGs := fun vs σ H Q => ∀ (pins : List (Addr × Obj)) (s : Shared) (us : List Value), Inv X pins σ H s → Vals vs us → wpAny (model X.prog X.w) X.A (assignInOrder ((assignEach ts X.env).map (·.2)) us) (fun _ s' => ∃ σ' H', Inv X pins σ' H' s' ∧ Q σ' H') X.xe s
theorem mxG (X : Cx) (e : Expr) : PG X e (WG X e) := ⟨fun pins s σ H v u Q I r h => h pins s u I r⟩
theorem mxGs (X : Cx) (e : List Expr) : PGs X e (WGs X e) := ⟨fun pins s σ H v u Q I r h => h pins s u I r⟩
/-- but for these slots as before -/
def ButSl (sl : List Nat) (σ σ1 : L2.St) : Prop := ∀ vs : List Nat, (∀ i ∈ sl, i ∈ vs) → wipe σ1 vs = wipe σ vs
theorem wipe_set {σ : L2.St} {i : Nat} {x : Option V} : ∀ vs : List Nat, wipe (σ.set i x) vs = if i ∈ vs then wipe σ vs else (wipe σ vs).set i x
  | [] => by simp [wipe]
  | v :: vs => by
    have ih := wipe_set (σ := σ) (i := i) (x := x) vs
    unfold wipe
    rw [ih]
    by_cases hv : i ∈ vs
    · rw [if_pos hv, if_pos (List.mem_cons_of_mem _ hv)]
    · rw [if_neg hv]
      by_cases hi : i = v
      · subst hi
        rw [if_pos List.mem_cons_self, List.set_set]
      · rw [if_neg (by simp [hi, hv]), List.set_comm _ _ hi]
theorem butSl_set (σ : L2.St) (i : Nat) (x : Option V) : ButSl [i] σ (σ.set i x) := fun vs h => by rw [wipe_set, if_pos (h i (by simp))]
def PDG (X : Cx) (tg : Expr) (g : DG) (sl : List Nat) : Prop := ∀ S e m σ d v e1 (Q : L2.St → Hp → Prop), Sta X.K S m → RelE X.K S e σ → Rep X.K S.i S.F d v → g d e = some e1 → (∀ σ1, RelE X.K S e1 σ1 → ButSl sl σ σ1 → Q σ1 S.H) → WG X tg v σ S.H Q
def dName (i : Nat) : DG := fun d e => some (e.set i (some d))
theorem pdg_name (i : Nat) {x : Str} (hN : X.N.Nodup) (hi : X.N[i]? = some x := by rfl) (hx : Loc X.env.scope x := by first | exact Or.inl rfl | exact Or.inr rfl) (hf : X.fn x = true ∨ X.env.scope.names.lookup x = some .local := by first | exact .inl rfl | exact .inr rfl | assumption) : PDG X (.Name x pos) (dName i) [i] :=
  fun S e m σ d v e1 Q sa re rd h q pins s u I r => by
    cases h
    exact (pg_name hN hi hx hf).run pins s σ S.H v u Q I r (q _ (re.set i rd) (butSl_set σ i _))
def PDGs (X : Cx) (ts : List Expr) (g : List D → En → Option En) (sl : List Nat) : Prop := ∀ S e m σ ds vs e1 (Q : L2.St → Hp → Prop), Sta X.K S m → RelE X.K S e σ → Reps X.K S.i S.F ds vs → g ds e = some e1 → (∀ σ1, RelE X.K S e1 σ1 → ButSl sl σ σ1 → Q σ1 S.H) → WGs X ts vs σ S.H Q
def dGnil : List D → En → Option En := fun ds e => match ds with
  | [] => some e
  | _ => none
def dGcons (g : DG) (h : List D → En → Option En) : List D → En → Option En := fun ds e => match ds with
  | d :: r => (g d e).bind fun e1 => h r e1
  | [] => none
theorem pdgs_nil : PDGs X [] dGnil [] := fun S e m σ ds vs e1 Q sa re rd h q pins s us I r => by
  cases rd with
  | nil => cases h; exact (pgs_nil (X := X)).run pins s σ S.H [] us Q I r ⟨rfl, q σ re fun vs _ => rfl⟩
  | cons _ _ => cases h
theorem pdgs_cons {g : DG} {h : List D → En → Option En} {sl sl' : List Nat} (h1 : PDG X a g sl) (h2 : PDGs X es h sl') (hs : (assignEach (a :: es) X.env).map (·.2) = assign a X.env :: (assignEach es X.env).map (·.2) := by rfl) : PDGs X (a :: es) (dGcons g h) (sl ++ sl') := by
  intro S e m σ ds vs e1 Q sa re rd hh q pins s us I r
  cases rd with
  | nil => cases hh
  | @cons d v ds' vs' r1 r2 =>
    have hh : (g d e).bind (fun e1 => h ds' e1) = some e1 := hh
    cases q1 : g d e with
    | none => rw [q1] at hh; cases hh
    | some e2 =>
      rw [q1] at hh
      exact (pgs_cons (mxG X a) (mxGs X es) hs).run pins s σ S.H (v :: vs') us Q I r ⟨v, vs', rfl, h1 S e m σ d v e2 _ sa re r1 q1 fun σ1 re1 b1 => h2 S e2 m σ1 ds' vs' e1 _ sa re1 r2 hh fun σ2 re2 b2 => q σ2 re2 fun vs hv => (b2 vs fun i hi => hv i (List.mem_append_right _ hi)).trans (b1 vs fun i hi => hv i (List.mem_append_left _ hi))⟩
def dTupG (n : Nat) (g : List D → En → Option En) : DG := fun d e => match d with
  | .tup ds => if ds.length = n then g ds e else none
  | _ => none
theorem pdg_tup {n k : Nat} {g : List D → En → Option En} {sl : List Nat} (hc : X.calm = true) (h : PDGs X es g sl) (hn : (assignEach es X.env).length = n := by rfl) (hst : (assignEach es X.env).findIdx? (·.1) = none := by rfl) : PDG X (.Tuple es k pos) (dTupG n g) sl := by
  intro S e m σ d v e1 Q sa re rd hh q pins s u I r
  cases rd with
  | tup h1 h2 =>
    unfold dTupG at hh
    dsimp only at hh
    split at hh
    · rename_i hl
      exact (pg_tup hc (mxGs X es) hn hst).run pins s σ S.H _ u Q I r ⟨_, _, rfl, SqT.ext' h1 sa.sub, by rw [← h2.len]; exact hl, h S e m σ _ _ e1 Q sa re h2 hh q⟩
    · cases hh
  | _ => cases hh
def dAsg (t : DE) (g : DG) : DS := fun e m => rsOf e (t e m) fun d m1 => match g d e with
  | some e1 => .nx e1 m1
  | none => .stuck
theorem pds_asg {tg : Expr} {g : DG} {sl : List Nat} (ha : PDE X a ta) (hg : PDG X tg g sl) (hs : swapsWithSole [tg] a pos.line X.env = pure false := by rfl) (hw : swappedStores [tg] a X.env = pure none := by rfl)
    (h1 : (assignEach [tg] X.env).map (·.2) = [assign tg X.env] := by rfl) : PDS X (.Assign [tg] a pos) (dAsg ta g) := by
  refine ps_of (ps_asg (mxE X a) (mxG X tg) hs hw h1) fun S r m σ N sa re pp => ha S r m σ _ sa re (PDE.stm re pp fun d m1 v T st sa1 rd q => ?_)
  split at q
  · rename_i e1 h
    exact hg T r m1 σ d v e1 N.nx sa1 (re.stp st) rd h fun σ1 re1 _ => q σ1 T (Stp.refl T) sa1 re1
  · exact q.elim
/-- a, b = x, y with local names -/
def dPar (i j : Nat) (t : DA) : DS := fun e m => match t e m with
  | .ok [x, y] m1 => .nx ((e.set i (some x)).set j (some y)) m1
  | .exc C fs m1 => .exc C fs e m1
  | _ => .stuck
theorem pds_par {i j : Nat} {x y : Str} {px py pt : Pos} {kt k2 pt2} (ha : PDA X [a, b] t) (hc : X.calm = true) (hN : X.N.Nodup) (hw : swappedStores [.Tuple [.Name x px, .Name y py] kt pt] (.Tuple [a, b] k2 pt2) X.env = pure (some [x, y]) := by rfl) (hi : X.N[i]? = some x := by rfl) (hj : X.N[j]? = some y := by rfl) (hij : i ≠ j := by decide)
    (hx : X.env.scope.names.lookup x = some .local := by rfl) (hy : X.env.scope.names.lookup y = some .local := by rfl)
    (hs : swapsWithSole [.Tuple [.Name x px, .Name y py] kt pt] (.Tuple [a, b] k2 pt2) pos.line X.env = pure false := by rfl) :
    PDS X (.Assign [.Tuple [.Name x px, .Name y py] kt pt] (.Tuple [a, b] k2 pt2) pos) (dPar i j t) := by
  refine ps_of (ps_par hc hN hi hj hij hx hy (mxA X _) hw hs) fun S r m σ N sa re p => ha S r m σ _ sa re ?_
  unfold dPar at p
  cases q : t r m with
  | stuck => rw [q] at p; exact p
  | exc C fs m1 => rw [q] at p; exact fun dd vs T st hn sa1 h1 h2 => p dd vs σ T st hn sa1 (re.stp st) h1 h2
  | ok ds m1 =>
    rw [q] at p
    intro vs T st sa1 rds
    split at p
    · rename_i d1 d2 m2 heq
      cases heq
      obtain ⟨v, w, rfl, r1, r2⟩ := reps2 rds
      exact ⟨v, w, rfl, p _ T st sa1 (((re.stp st).set i r1).set j r2)⟩
    · rename_i heq; cases heq
    · exact p.elim
end
end DL

namespace DL
open PySem PySem.Spec PyProof.Rows L2
variable [LamTab]
/-! ### what a loop walks -/
def ItOk (K : PySem.W.Frag) (T : Wd) (J : It) (ds : List D) : Prop := ∀ (U : Wd) (m : Mu) (i : Nat), Stp T U → Sta K U m →
  (∀ d, ds[i]? = some d → J.go i U.H ∧ ∀ x H', J.yld i U.H x H' → ∃ Y : Wd, Y.H = H' ∧ Stp U Y ∧ Sta K Y m ∧ Rep K Y.i Y.F d x) ∧ (ds.length ≤ i → J.stop i U.H)
def PostI (K : PySem.W.Frag) (S : Wd) (r : Res (List D)) (R : It → Hp → Prop) (W : XK) : Prop := match r with
  | .stuck => False
  | .ok ds m => ∀ J T, Stp S T → Sta K T m → ItOk K T J ds → R J T.H
  | .exc C fs m => ∀ dd vs T, Stp S T → S.H dd = none → Sta K T m → T.H dd = some (.xd vs) → RepF K T.i T.F fs vs → W (.ref C) (some dd) T.H
def WI (X : Cx) (tg iter : Expr) : TI := fun σ H R => ∀ (pins : List (Addr × Obj)) (s : Shared), Inv X pins σ H s →
  wpAny (model X.prog X.w) X.A (eval iter X.env) (fun v s1 => wpAny (model X.prog X.w) X.A (pyIter v) (PIE X pins σ tg R) X.xe s1) X.xe s
theorem mxI (X : Cx) (tg iter : Expr) : PI X tg iter (WI X tg iter) := ⟨fun pins s σ H R I h => h pins s I⟩
def PDI (X : Cx) (tg iter : Expr) (t : DA) : Prop := ∀ S r m σ R, Sta X.K S m → RelE X.K S r σ → PostI X.K S (t r m) R (fun c d H => Fly X c d σ H) → WI X tg iter σ S.H R
theorem pdi_of {X : Cx} {tg iter : Expr} {u : TI} {t : DA} (h : PI X tg iter u) (k : ∀ S r m σ R, Sta X.K S m → RelE X.K S r σ → PostI X.K S (t r m) R (fun c d H => Fly X c d σ H) → u σ S.H R) : PDI X tg iter t :=
  fun S r m σ R sa re p pins s I => h.run pins s σ S.H R I (k S r m σ R sa re p)
/-- from a result to what is walked -/
theorem PostI.bindI {α β : Type} {R' : Wd → α → β → Prop} {K : PySem.W.Frag} {S : Wd} {r : Res α} {f : α → Mu → Res (List D)} {Q : It → Hp → Prop} {Q' : β → Hp → Prop} {W : XK} (h : PostI K S (r.bind f) Q W)
    (g : ∀ a m v T, Stp S T → Sta K T m → R' T a v → PostI K T (f a m) Q W → Q' v T.H) : Post R' K S r Q' W := by
  cases r with
  | stuck => exact h
  | ok a m =>
    intro v U s1 s2 s3
    refine g a m v U s1 s2 s3 ?_
    have h : PostI K S (f a m) Q W := h
    cases q : f a m with
    | stuck => rw [q] at h; exact h
    | ok ds m1 => rw [q] at h; exact fun J T st => h J T (s1.trans st)
    | exc C fs m1 => rw [q] at h; exact fun dd vs T st hn => h dd vs T (s1.trans st) (s1.old dd hn)
  | exc C fs m => exact h
section
variable {K : PySem.W.Frag} {T : Wd}
/-- a list that stands in the part that never changes -/
theorem frozen {m : Mu} {ds : List D} {v : V} (sa : Sta K T m) (r : Rep K T.i T.F (.lst ds) v) : ∃ a xs, v = .ref a ∧ Reps K T.i T.F ds xs ∧ ∀ U m', Stp T U → Sta K U m' → SqL K U.H a xs ∧ Reps K U.i U.F ds xs := by
  cases r with
  | lst h1 h2 => exact ⟨_, _, rfl, h2, fun U m' st sa' => ⟨SqL.ext' (SqL.ext' h1 st.ext) sa'.sub, h2.stp st⟩⟩
theorem frozenT {m : Mu} {ds : List D} {v : V} (sa : Sta K T m) (r : Rep K T.i T.F (.tup ds) v) : ∃ a xs, v = .ref a ∧ Reps K T.i T.F ds xs ∧ ∀ U m', Stp T U → Sta K U m' → SqT K U.H a xs ∧ Reps K U.i U.F ds xs := by
  cases r with
  | tup h1 h2 => exact ⟨_, _, rfl, h2, fun U m' st sa' => ⟨SqT.ext' (SqT.ext' h1 st.ext) sa'.sub, h2.stp st⟩⟩
end
section
variable {X : Cx} {tg a b : Expr} {es : List Expr} {ta tb : DE} {t : DA} {pos p tpos : Pos}
/-- over a list -/
def dItL (t : DE) : DA := fun e m => (t e m).bind fun d m1 => match d with
  | .lst ds => .ok ds m1
  | _ => .stuck
theorem pdi_list (ha : PDE X a ta) : PDI X tg a (dItL ta) := by
  refine pdi_of (pi_list (mxE X a)) fun S r m σ R sa re p => ?_
  refine ha S r m σ _ sa re (PostI.bindI p fun d m1 v T st sa1 rd q => ?_)
  split at q
  · rename_i ds
    obtain ⟨a, xs, rfl, hr, k⟩ := frozen sa1 rd
    refine ⟨a, rfl, ⟨xs, (k T m1 (Stp.refl T) sa1).1⟩, q _ T (Stp.refl T) sa1 fun U m' i st' sa' => ⟨fun d hd => ?_, fun hl => ⟨xs, (k U m' st' sa').1, by rw [← hr.len]; exact hl⟩⟩⟩
    obtain ⟨v, hv, rv⟩ := (k U m' st' sa').2.get hd
    refine ⟨⟨xs, v, (k U m' st' sa').1, hv⟩, fun x H' hy => ⟨U, hy.1.symm, Stp.refl U, sa', ?_⟩⟩
    have := hy.2 xs (k U m' st' sa').1
    rw [hv] at this; cases this
    exact rv
  · exact q.elim
/-- over a tuple -/
def dItT (t : DE) : DA := fun e m => (t e m).bind fun d m1 => match d with
  | .tup ds => .ok ds m1
  | _ => .stuck
theorem pdi_tup (ha : PDE X a ta) : PDI X tg a (dItT ta) := by
  refine pdi_of (pi_tup (mxE X a)) fun S r m σ R sa re p => ?_
  refine ha S r m σ _ sa re (PostI.bindI p fun d m1 v T st sa1 rd q => ?_)
  split at q
  · rename_i ds
    obtain ⟨a, xs, rfl, hr, k⟩ := frozenT sa1 rd
    refine ⟨a, rfl, ⟨xs, (k T m1 (Stp.refl T) sa1).1⟩, q _ T (Stp.refl T) sa1 fun U m' i st' sa' => ⟨fun d hd => ?_, fun hl => ⟨xs, (k U m' st' sa').1, by rw [← hr.len]; exact hl⟩⟩⟩
    obtain ⟨v, hv, rv⟩ := (k U m' st' sa').2.get hd
    refine ⟨⟨xs, v, (k U m' st' sa').1, hv⟩, fun x H' hy => ⟨U, hy.1.symm, Stp.refl U, sa', ?_⟩⟩
    have := hy.2 xs (k U m' st' sa').1
    rw [hv] at this; cases this
    exact rv
  · exact q.elim
/-- over range(..) -/
def rngD (lo : Int) (n : Nat) : List D := (List.range n).map fun (k : Nat) => .int (lo + (k : Int))
theorem rng_get (lo : Int) (n i : Nat) (d : D) (h : (rngD lo n)[i]? = some d) : i < n ∧ d = .int (lo + (i : Int)) := by
  unfold rngD at h
  rw [List.getElem?_map] at h
  cases q : (List.range n)[i]? with
  | none => rw [q] at h; cases h
  | some k =>
    rw [q] at h; cases h
    obtain ⟨h1, h2⟩ := List.getElem?_eq_some_iff.mp q
    simp at h1 h2
    subst h2
    exact ⟨h1, rfl⟩
theorem rng_len (lo : Int) (n : Nat) : (rngD lo n).length = n := by simp [rngD]
theorem itr_ok {K : PySem.W.Frag} {T : Wd} (lo : Int) (n : Nat) : ItOk K T (Itr lo n) (rngD lo n) := fun U m i st sa => ⟨fun d hd => by
    obtain ⟨h1, rfl⟩ := rng_get lo n i d hd
    exact ⟨h1, fun x H' hy => ⟨U, hy.1.symm, Stp.refl U, sa, by rw [hy.2]; exact .int _⟩⟩, fun hl => by rw [rng_len] at hl; exact hl⟩
def dItR1 (t : DA) : DA := fun e m => (t e m).bind fun ds m1 => match ds with
  | [.int j] => if -(2 ^ 62) ≤ j ∧ j < 2 ^ 62 then .ok (rngD 0 j.toNat) m1 else .stuck
  | _ => .stuck
def dItR2 (t : DA) : DA := fun e m => (t e m).bind fun ds m1 => match ds with
  | [.int i, .int j] => if -(2 ^ 62) ≤ i ∧ i < 2 ^ 62 ∧ -(2 ^ 62) ≤ j ∧ j < 2 ^ 62 then .ok (rngD i (j - i).toNat) m1 else .stuck
  | _ => .stuck
theorem pdi_range1 (hm : X.mg "range" = none) (ha : PDA X [a] t) (hg : Gl X "range" := by rfl) (hs : starEach [a] X.env = [(false, eval a X.env)] := by rfl) : PDI X tg (.Call (.Name "range" p) [a] [] pos) (dItR1 t) := by
  refine pdi_of (pi_range1 hg hm (mxA X [a]) hs) fun S r m σ R sa re p => ?_
  refine ha S r m σ _ sa re (PostI.bindI p fun d m1 v T st sa1 rd q => ?_)
  split at q
  · split at q
    · rename_i h
      obtain ⟨w, rfl, hw⟩ := reps1 rd
      cases hw
      exact ⟨_, rfl, h.1, h.2, q _ T (Stp.refl T) sa1 (itr_ok 0 _)⟩
    · exact q.elim
  · exact q.elim
theorem pdi_range2 (hm : X.mg "range" = none) (ha : PDA X [a, b] t) (hg : Gl X "range" := by rfl) (hs : starEach [a, b] X.env = [(false, eval a X.env), (false, eval b X.env)] := by rfl) (hs2 : starEach [b] X.env = [(false, eval b X.env)] := by rfl) : PDI X tg (.Call (.Name "range" p) [a, b] [] pos) (dItR2 t) := by
  refine pdi_of (pi_range2 hg hm (mxA X [a, b]) hs hs2) fun S r m σ R sa re p => ?_
  refine ha S r m σ _ sa re (PostI.bindI p fun d m1 v T st sa1 rd q => ?_)
  split at q
  · split at q
    · rename_i h
      obtain ⟨w, w2, rfl, hw, hw2⟩ := reps2 rd
      cases hw; cases hw2
      exact ⟨_, _, rfl, h, q _ T (Stp.refl T) sa1 (itr_ok _ _)⟩
    · exact q.elim
  · exact q.elim
/-- over enumerate(xs), zip(xs, ys) -/
def dItE (t : DA) : DA := fun e m => (t e m).bind fun ds m1 => match ds with
  | [.lst es] => .ok ((List.range es.length).zipWith (fun k d => .tup [.int (k : Nat), d]) es) m1
  | _ => .stuck
theorem enum_get (es : List D) (i : Nat) (d : D) (h : ((List.range es.length).zipWith (fun k d => D.tup [.int (k : Nat), d]) es)[i]? = some d) : ∃ x, es[i]? = some x ∧ d = .tup [.int (i : Nat), x] := by
  rw [List.getElem?_zipWith] at h
  cases q : (List.range es.length)[i]? with
  | none => rw [q] at h; cases h
  | some k =>
    cases q2 : es[i]? with
    | none => rw [q, q2] at h; cases h
    | some x =>
      rw [q, q2] at h; cases h
      obtain ⟨h1, h2⟩ := List.getElem?_eq_some_iff.mp q
      simp at h1 h2
      subst h2
      exact ⟨x, rfl, rfl⟩
theorem pdi_enum {elts : List Expr} {kk : Nat} (hm : X.mg "enumerate" = none) (ha : PDA X [a] t) (hg : Gl X "enumerate" := by rfl) (hs : starEach [a] X.env = [(false, eval a X.env)] := by rfl) : PDI X (.Tuple elts kk tpos) (.Call (.Name "enumerate" p) [a] [] pos) (dItE t) := by
  refine pdi_of (pi_enum hg hm (mxA X [a]) hs) fun S r m σ R sa re p => ?_
  refine ha S r m σ _ sa re (PostI.bindI p fun d m1 v T st sa1 rd q => ?_)
  split at q
  · rename_i es
    obtain ⟨w, rfl, hw⟩ := reps1 rd
    obtain ⟨a, xs, rfl, hr, k⟩ := frozen sa1 hw
    refine ⟨a, xs, rfl, (k T m1 (Stp.refl T) sa1).1, q _ T (Stp.refl T) sa1 fun U m' i st' sa' => ⟨fun d hd => ?_, fun hl => ⟨xs, (k U m' st' sa').1, ?_⟩⟩⟩
    · obtain ⟨x, hx, rfl⟩ := enum_get es i d hd
      obtain ⟨v, hv, rv⟩ := (k U m' st' sa').2.get hx
      refine ⟨⟨xs, v, (k U m' st' sa').1, hv⟩, fun y H' hy => ?_⟩
      obtain ⟨n, z, rfl, hn, rfl, hz⟩ := hy
      have hz' := hz xs (k U m' st' sa').1
      rw [hv] at hz'; cases hz'
      have st2 := Stp.new sa' (o := .tup [.int (i : Nat), v]) hn
      exact ⟨U.new n _, rfl, st2, sa'.new hn, .tup (.inl (.inl upd_same)) (.cons (.int _) (.cons (rv.stp st2) .nil))⟩
    · have hl : ((List.range es.length).zipWith (fun k d => D.tup [.int (k : Nat), d]) es).length ≤ i := hl
      rw [List.length_zipWith, List.length_range, Nat.min_self, hr.len] at hl
      exact hl
  · exact q.elim
def dItZ (t : DA) : DA := fun e m => (t e m).bind fun ds m1 => match ds with
  | [.lst xs, .lst ys] => .ok (xs.zipWith (fun x y => .tup [x, y]) ys) m1
  | [.tup xs, .tup ys] => .ok (xs.zipWith (fun x y => .tup [x, y]) ys) m1
  | _ => .stuck
theorem zip_get {xs ys : List D} {i : Nat} {d : D} (h : (xs.zipWith (fun x y => D.tup [x, y]) ys)[i]? = some d) : ∃ x y, xs[i]? = some x ∧ ys[i]? = some y ∧ d = .tup [x, y] := by
  rw [List.getElem?_zipWith] at h
  cases q : xs[i]? with
  | none => rw [q] at h; cases h
  | some k =>
    cases q2 : ys[i]? with
    | none => rw [q, q2] at h; cases h
    | some x => rw [q, q2] at h; cases h; exact ⟨k, x, rfl, rfl, rfl⟩
theorem pdi_zip {elts : List Expr} {kk : Nat} (hm : X.mg "zip" = none) (ha : PDA X [a, b] t) (hg : Gl X "zip" := by rfl) (hs : starEach [a, b] X.env = (false, eval a X.env) :: starEach [b] X.env := by rfl) (hpl : (backTo pos (starEach [b] X.env)).any (·.1) = false := by rfl) : PDI X (.Tuple elts kk tpos) (.Call (.Name "zip" p) [a, b] [] pos) (dItZ t) := by
  refine pdi_of (RZ.pi_zipA hg hm (mxA X [a, b]) hs hpl) fun S r m σ R sa re p => ?_
  refine ha S r m σ _ sa re (PostI.bindI p fun d m1 v T st sa1 rd q => ?_)
  split at q
  · obtain ⟨w, w2, rfl, hw, hw2⟩ := reps2 rd
    obtain ⟨a, xs, rfl, hr, k⟩ := frozen sa1 hw
    obtain ⟨b, ys, rfl, hr2, k2⟩ := frozen sa1 hw2
    refine ⟨a, b, xs, ys, rfl, .inl ⟨(k T m1 (Stp.refl T) sa1).1, (k2 T m1 (Stp.refl T) sa1).1, q _ T (Stp.refl T) sa1 fun U m' i st' sa' => ⟨fun d hd => ?_, fun hl => ⟨xs, ys, (k U m' st' sa').1, (k2 U m' st' sa').1, ?_⟩⟩⟩⟩
    · obtain ⟨x, y, hx, hy, rfl⟩ := zip_get hd
      obtain ⟨v, hv, rv⟩ := (k U m' st' sa').2.get hx
      obtain ⟨v2, hv2, rv2⟩ := (k2 U m' st' sa').2.get hy
      refine ⟨⟨xs, ys, v, v2, (k U m' st' sa').1, (k2 U m' st' sa').1, hv, hv2⟩, fun y H' hy => ?_⟩
      obtain ⟨n, z, z2, rfl, hn, rfl, hz, hz2⟩ := hy
      have hz' := hz xs (k U m' st' sa').1
      have hz2' := hz2 ys (k2 U m' st' sa').1
      rw [hv] at hz'; cases hz'
      rw [hv2] at hz2'; cases hz2'
      have st2 := Stp.new sa' (o := .tup [v, v2]) hn
      exact ⟨U.new n _, rfl, st2, sa'.new hn, .tup (.inl (.inl upd_same)) (.cons (rv.stp st2) (.cons (rv2.stp st2) .nil))⟩
    · rw [List.length_zipWith, hr.len, hr2.len] at hl
      omega
  · obtain ⟨w, w2, rfl, hw, hw2⟩ := reps2 rd
    obtain ⟨a, xs, rfl, hr, k⟩ := frozenT sa1 hw
    obtain ⟨b, ys, rfl, hr2, k2⟩ := frozenT sa1 hw2
    refine ⟨a, b, xs, ys, rfl, .inr ⟨(k T m1 (Stp.refl T) sa1).1, (k2 T m1 (Stp.refl T) sa1).1, q _ T (Stp.refl T) sa1 fun U m' i st' sa' => ⟨fun d hd => ?_, fun hl => ⟨xs, ys, (k U m' st' sa').1, (k2 U m' st' sa').1, ?_⟩⟩⟩⟩
    · obtain ⟨x, y, hx, hy, rfl⟩ := zip_get hd
      obtain ⟨v, hv, rv⟩ := (k U m' st' sa').2.get hx
      obtain ⟨v2, hv2, rv2⟩ := (k2 U m' st' sa').2.get hy
      refine ⟨⟨xs, ys, v, v2, (k U m' st' sa').1, (k2 U m' st' sa').1, hv, hv2⟩, fun y H' hy => ?_⟩
      obtain ⟨n, z, z2, rfl, hn, rfl, hz, hz2⟩ := hy
      have hz' := hz xs (k U m' st' sa').1
      have hz2' := hz2 ys (k2 U m' st' sa').1
      rw [hv] at hz'; cases hz'
      rw [hv2] at hz2'; cases hz2'
      have st2 := Stp.new sa' (o := .tup [v, v2]) hn
      exact ⟨U.new n _, rfl, st2, sa'.new hn, .tup (.inl (.inl upd_same)) (.cons (rv.stp st2) (.cons (rv2.stp st2) .nil))⟩
    · rw [List.length_zipWith, hr.len, hr2.len] at hl
      omega
  · exact q.elim

/-! ### for -/
def dLoop (g : DG) (b : DS) : List D → En → Mu → RS
  | [], e, m => .nx e m
  | d :: ds, e, m => match g d e with
    | none => .stuck
    | some e1 => match b e1 m with
      | .nx e2 m2 => dLoop g b ds e2 m2
      | .ct e2 m2 => dLoop g b ds e2 m2
      | .bk e2 m2 => .nx e2 m2
      | .rt d m2 => .rt d m2
      | .exc C fs e2 m2 => .exc C fs e2 m2
      | .stuck => .stuck
def dFor (t : DA) (g : DG) (b : DS) : DS := fun e m => match t e m with
  | .ok ds m1 => dLoop g b ds e m1
  | .exc C fs m1 => .exc C fs e m1
  | .stuck => .stuck
theorem pds_for {iter : Expr} {body : List Stmt} {g : DG} {u : DS} {sl : List Nat} (hi : PDI X tg iter t) (hg : PDG X tg g sl) (hb : PDSs X body u) (hc : X.calm = true) (hp : PassesOwn (model X.prog X.w) X.A X.env X.xe)
    (hs : ∀ x, foldedSetIterable iter X.env x = pure x := by intro _; rfl) : PDS X (.For tg iter body [] pos) (dFor t g u) := by
  refine ps_of (ps_for hp hc (mxI X tg iter) (mxG X tg) (mxSs X body) hs) fun S r m σ N sa re p => hi S r m σ _ sa re ?_
  unfold dFor at p
  cases q : t r m with
  | stuck => rw [q] at p; exact p
  | exc C fs m1 => rw [q] at p; exact fun dd vs T st hn sa1 h1 h2 => p dd vs σ T st hn sa1 (re.stp st) h1 h2
  | ok ds m1 =>
    rw [q] at p
    intro J T st sa1 hJ
    refine ⟨fun i n σ' H' => n = ds.length - i ∧ i ≤ ds.length ∧ ∃ (U : Wd) (e : En) (m' : Mu), U.H = H' ∧ Stp T U ∧ Sta X.K U m' ∧ RelE X.K U e σ' ∧ PostS X.K U (dLoop g u (ds.drop i) e m') N (Fly X),
      ⟨ds.length, by simp, Nat.zero_le _, T, r, m1, rfl, Stp.refl T, sa1, re.stp st, PostS.step st p⟩, ?_⟩
    rintro i n σ' H' ⟨rfl, hi', U, e, m', rfl, stU, saU, reU, pU⟩
    by_cases hlt : i < ds.length
    · refine .inr ⟨((hJ U m' i stU saU).1 _ (List.getElem?_eq_getElem hlt)).1, fun σ2 H2 => i + 1 ≤ ds.length ∧ ∃ (U2 : Wd) (e2 : En) (m2 : Mu), U2.H = H2 ∧ Stp T U2 ∧ Sta X.K U2 m2 ∧ RelE X.K U2 e2 σ2 ∧ PostS X.K U2 (dLoop g u (ds.drop (i + 1)) e2 m2) N (Fly X),
        fun σ2 H2 h2 => ⟨ds.length - (i + 1), by omega, rfl, h2.1, h2.2⟩, fun x H2 hy => ?_⟩
      obtain ⟨Y, rfl, stY, saY, rdY⟩ := ((hJ U m' i stU saU).1 _ (List.getElem?_eq_getElem hlt)).2 x H2 hy
      rw [List.drop_eq_getElem_cons hlt] at pU
      have pY := PostS.step stY pU
      unfold dLoop at pY
      cases qg : g ds[i] e with
      | none => rw [qg] at pY; exact pY.elim
      | some e1 =>
        rw [qg] at pY
        refine hg Y e m' σ' ds[i] x e1 _ saY (reU.stp stY) rdY qg fun σ1 re1 _ => hb Y e1 m' σ1 _ saY re1 ?_
        have stT := stU.trans stY
        dsimp only at pY
        cases qb : u e1 m' with
        | stuck => rw [qb] at pY; exact pY.elim
        | nx e2 m2 => rw [qb] at pY; exact fun σ2 Z stZ saZ reZ => ⟨hlt, Z, e2, m2, rfl, stT.trans stZ, saZ, reZ, PostS.step stZ pY⟩
        | ct e2 m2 => rw [qb] at pY; exact fun σ2 Z stZ saZ reZ => ⟨hlt, Z, e2, m2, rfl, stT.trans stZ, saZ, reZ, PostS.step stZ pY⟩
        | bk e2 m2 => rw [qb] at pY; exact pY
        | rt d m2 => rw [qb] at pY; exact pY
        | exc C fs e2 m2 => rw [qb] at pY; exact pY
    · have e : i = ds.length := by omega
      subst e
      rw [List.drop_length] at pU
      exact .inl ⟨(hJ U m' _ stU saU).2 (Nat.le_refl _), pU σ' U (Stp.refl U) saU reU⟩

/-! ### while -/
def whileF (c : DT) (b : DS) : Nat → En → Mu → RS
  | 0, _, _ => .stuck
  | n + 1, e, m => match c e m with
    | .stuck => .stuck
    | .exc C fs m1 => .exc C fs e m1
    | .ok false m1 => .nx e m1
    | .ok true m1 => match b e m1 with
      | .nx e2 m2 => whileF c b n e2 m2
      | .ct e2 m2 => whileF c b n e2 m2
      | .bk e2 m2 => .nx e2 m2
      | .rt d m2 => .rt d m2
      | .exc C fs e2 m2 => .exc C fs e2 m2
      | .stuck => .stuck
open Classical in
noncomputable def dWhile (c : DT) (b : DS) : DS := fun e m => if h : ∃ n, whileF c b n e m ≠ .stuck then whileF c b h.choose e m else .stuck
theorem whileF_more (c : DT) (b : DS) : ∀ (n k : Nat) (e : En) (m : Mu), whileF c b n e m ≠ .stuck → whileF c b (n + k) e m = whileF c b n e m
  | 0, _, _, _, h => absurd rfl h
  | n + 1, k, e, m, h => by
    rw [show n + 1 + k = (n + k) + 1 by omega]
    unfold whileF at h ⊢
    cases qc : c e m with
    | stuck => rfl
    | exc C fs m1 => rfl
    | ok v m1 =>
      rw [qc] at h
      cases v with
      | false => rfl
      | true =>
        dsimp only at h ⊢
        cases qb : b e m1 with
        | nx e2 m2 => rw [qb] at h; exact whileF_more c b n k e2 m2 h
        | ct e2 m2 => rw [qb] at h; exact whileF_more c b n k e2 m2 h
        | _ => rfl
theorem dWhile_eq {c : DT} {b : DS} {n : Nat} {e : En} {m : Mu} {r : RS} (h : whileF c b n e m = r) (hr : r ≠ .stuck) : dWhile c b e m = r := by
  have hex : ∃ n, whileF c b n e m ≠ .stuck := ⟨n, by rw [h]; exact hr⟩
  unfold dWhile
  rw [dif_pos hex]
  have hc := hex.choose_spec
  have h1 := whileF_more c b n hex.choose e m (by rw [h]; exact hr)
  have h2 := whileF_more c b hex.choose n e m hc
  rw [Nat.add_comm] at h2
  rw [← h, ← h1, h2]
theorem pds_while {c : Expr} {body : List Stmt} {v : DT} {u : DS} (hv : PDT X c v) (hb : PDSs X body u) (hp : PassesOwn (model X.prog X.w) X.A X.env X.xe) : PDS X (.While c body [] pos) (dWhile v u) := by
  refine ps_of (ps_while hp (mxT X c) (mxSs X body)) fun S r m σ N sa re p => ?_
  unfold dWhile at p
  split at p
  · rename_i hex
    generalize hex.choose = n at p
    refine ⟨fun n σ' H' => ∃ (U : Wd) (e : En) (m' : Mu), U.H = H' ∧ Sta X.K U m' ∧ RelE X.K U e σ' ∧ PostS X.K U (whileF v u n e m') N (Fly X), ⟨n, S, r, m, rfl, sa, re, p⟩, ?_⟩
    rintro n σ' H' ⟨U, e, m', rfl, saU, reU, pU⟩
    cases n with
    | zero => exact (show False from pU).elim
    | succ n =>
      refine hv U e m' σ' _ saU reU ?_
      unfold whileF at pU
      cases qc : v e m' with
      | stuck => rw [qc] at pU; exact pU.elim
      | exc C fs m1 => rw [qc] at pU; exact fun dd vs T st hn sa1 h1 h2 => pU dd vs σ' T st hn sa1 (reU.stp st) h1 h2
      | ok k m1 =>
        rw [qc] at pU
        intro k' T st sa1 hk
        cases (show k = k' from hk)
        have pT := PostS.step st pU
        cases k with
        | false => exact iteF (pT σ' T (Stp.refl T) sa1 (reU.stp st))
        | true =>
          refine iteT ⟨fun σ2 H2 => ∃ (U : Wd) (e : En) (m' : Mu), U.H = H2 ∧ Sta X.K U m' ∧ RelE X.K U e σ2 ∧ PostS X.K U (whileF v u n e m') N (Fly X), fun σ2 H2 h2 => ⟨n, Nat.lt_succ_self n, h2⟩, ?_⟩
          refine hb T e m1 σ' _ sa1 (reU.stp st) ?_
          dsimp only at pT
          cases qb : u e m1 with
          | stuck => rw [qb] at pT; exact pT.elim
          | nx e2 m2 => rw [qb] at pT; exact fun σ2 Z stZ saZ reZ => ⟨Z, e2, m2, rfl, saZ, reZ, PostS.step stZ pT⟩
          | ct e2 m2 => rw [qb] at pT; exact fun σ2 Z stZ saZ reZ => ⟨Z, e2, m2, rfl, saZ, reZ, PostS.step stZ pT⟩
          | bk e2 m2 => rw [qb] at pT; exact pT
          | rt d m2 => rw [qb] at pT; exact pT
          | exc C fs e2 m2 => rw [qb] at pT; exact pT
  · exact p.elim

/-! ### comprehensions -/
def dCompL (g : DG) (c : DT) (b : DE) (e : En) : List D → Mu → List D → Res (List D)
  | [], m, acc => .ok acc m
  | d :: ds, m, acc => match g d e with
    | none => .stuck
    | some e1 => match c e1 m with
      | .ok true m1 => match b e1 m1 with
        | .ok x m2 => if acc.length < sizeLine then dCompL g c b e ds m2 (acc ++ [x]) else .stuck
        | _ => .stuck
      | .ok false m1 => dCompL g c b e ds m1 acc
      | _ => .stuck
def dComp (t : DA) (g : DG) (c : DT) (b : DE) (own : List Nat) : DE := fun e m => (t e m).bind fun ds m1 => (dCompL g c b (wipeE e own) ds m1 []).bind fun xs m2 => .ok (.lst xs) m2
def dYes : DT := fun _ m => .ok true m
def WTs (X : Cx) (ifs : List Expr) : TT := fun σ H Q => ∀ (pins : List (Addr × Obj)) (s : Shared), Inv X pins σ H s → wpAny (model X.prog X.w) X.A (forIn ifs true fun c r => if r = true then do let ok ← isTrue c X.env (eval c X.env); pure (ForInStep.yield ok) else pure (ForInStep.yield r)) (TP X pins σ Q) X.xe s
theorem mxTs (X : Cx) (ifs : List Expr) : PTs X ifs (WTs X ifs) := ⟨fun pins s σ H Q I h => h pins s I⟩
def PDTs (X : Cx) (ifs : List Expr) (t : DT) : Prop := ∀ S r m σ Q, Sta X.K S m → RelE X.K S r σ → PostB X.K S (t r m) Q (fun c d H => Fly X c d σ H) → WTs X ifs σ S.H Q
theorem pdts_nil : PDTs X [] dYes := fun S r m σ Q sa re p pins s I => (pts_nil (X := X)).run pins s σ S.H Q I (Post.ok p (Stp.refl S) sa rfl)
theorem pdts_one {c : Expr} {t : DT} (h : PDT X c t) : PDTs X [c] t := fun S r m σ Q sa re p pins s I => (pts_one (mxT X c)).run pins s σ S.H Q I (h S r m σ Q sa re p)
end
end DL

namespace DL
open PySem PySem.Spec PyProof.Rows L2
variable [LamTab]
section
variable {K : PySem.W.Frag} {S T U Y : Wd}
theorem Stp.hid (st : Stp T Y) {p : Addr} {o : HO} (h : T.H p = none) : Stp T (Y.put p o) := ⟨st.pre, st.ext, fun a u hn h1 h2 h3 => by
  have ne : a ≠ p := ne_of_none h1 h
  obtain ⟨k1, k2, k3⟩ := st.frame a u hn h1 h2 h3
  exact ⟨by show upd Y.H p o a = _; rw [upd_ne ne]; exact k1, k2, k3⟩, fun a z => st.old a (upd_none z)⟩
theorem Stp.kept (st : Stp T Y) {p : Addr} {o : HO} (h : T.H p = none) (hf : Y.F p = none) : Stp T (Y.keep p o) := ⟨st.pre, st.ext.trans (Ext.updNew hf), fun a u hn h1 h2 h3 => by
  have ne : a ≠ p := ne_of_none h1 h
  obtain ⟨k1, k2, k3⟩ := st.frame a u hn h1 h2 h3
  exact ⟨k1, by show upd Y.F p o a = _; rw [upd_ne ne]; exact k2, k3⟩, st.old⟩
end
theorem wipe_none {σ : L2.St} : ∀ {vs : List Nat} {i : Nat}, i ∈ vs → i < σ.length → (wipe σ vs)[i]? = some none
  | v :: vs, i, h, hl => by
    unfold wipe
    by_cases hv : v = i
    · subst hv
      rw [List.getElem?_set_self (by rw [wipe_length]; exact hl)]
    · rw [List.getElem?_set_ne hv]
      rcases List.mem_cons.mp h with e | h
      · exact absurd e.symm hv
      · exact wipe_none h hl
theorem wipe_idem {σ : L2.St} : ∀ {vs : List Nat}, (∀ i ∈ vs, σ[i]? = none ∨ σ[i]? = some none) → wipe σ vs = σ
  | [], _ => rfl
  | v :: vs, h => by
    unfold wipe
    rw [wipe_idem (fun i hi => h i (List.mem_cons_of_mem _ hi))]
    apply List.ext_getElem?
    intro j
    by_cases hj : v = j
    · subst hj
      rcases h v List.mem_cons_self with e | e
      · rw [List.getElem?_eq_none (by rw [List.length_set]; exact List.getElem?_eq_none_iff.mp e), e]
      · rw [List.getElem?_set_self (List.getElem?_eq_some_iff.mp e).1, e]
    · rw [List.getElem?_set_ne hj]
theorem wipe_wipe (σ : L2.St) (vs : List Nat) : wipe (wipe σ vs) vs = wipe σ vs := wipe_idem fun i hi => by
  by_cases hl : i < σ.length
  · exact .inr (wipe_none hi hl)
  · exact .inl (List.getElem?_eq_none (by rw [wipe_length]; omega))
section
variable {X : Cx}
/-- a block's context -/
abbrev Bk (X : Cx) (scope : Scope) (s : Shared) (H : Hp) (C : Addr) (cl : List (Str × Addr)) (fp : List Addr) : Cx := X.blk s H scope (compEnvC scope cl C X.env) fp
abbrev bG (X : Cx) (scope : Scope) (tg : Expr) : TG := fun v σ H Q => ∀ s0 H0 C cl fp, WG (Bk X scope s0 H0 C cl fp) tg v σ H Q
abbrev bT (X : Cx) (scope : Scope) (ifs : List Expr) : TT := fun σ H Q => ∀ s0 H0 C cl fp, WTs (Bk X scope s0 H0 C cl fp) ifs σ H Q
abbrev bE (X : Cx) (scope : Scope) (elt : Expr) : TE := fun σ H Q => ∀ s0 H0 C cl fp, WE (Bk X scope s0 H0 C cl fp) elt σ H Q
variable {elt tg iter : Expr} {ifs : List Expr} {scope : Scope} {own : List (Str × Nat)} {pos spos : Pos} {t : DA} {g : DG} {c : DT} {b : DE} {sl : List Nat}
theorem lc_go {σ : L2.St} {S : Wd} {r : En} {m : Mu} {Q : VK} (hi : PDI X tg iter t)
    (hg : ∀ s H C cl fp, PDG (Bk X scope s H C cl fp) tg g sl) (ht : ∀ s H C cl fp, PDTs (Bk X scope s H C cl fp) ifs c) (he : ∀ s H C cl fp, PDE (Bk X scope s H C cl fp) elt b)
    (hsl : ∀ i ∈ sl, i ∈ own.map (·.2))
    (sa : Sta X.K S m) (re : RelE X.K S r σ) (p : PostD X.K S (dComp t g c b (own.map (·.2)) r m) Q (fun c d H => Fly X c d σ H)) :
    tLc (WI X tg iter) (bG X scope tg) (bT X scope ifs) (bE X scope elt) (own.map (·.2)) σ S.H Q := by
  refine hi S r m σ _ sa re ?_
  unfold dComp at p
  cases q : t r m with
  | stuck => rw [q] at p; exact p
  | exc C fs m1 => rw [q] at p; exact p
  | ok ds m1 =>
    rw [q] at p
    intro J T st sa1 hJ Dd hD
    have pT : PostD X.K T ((dCompL g c b (wipeE r (own.map (·.2))) ds m1 []).bind fun xs m2 => Res.ok (D.lst xs) m2) Q (fun c d H => Fly X c d σ H) := Post.step st p
    have reW : RelE X.K T (wipeE r (own.map (·.2))) (wipe σ (own.map (·.2))) := (re.stp st).wipe _
    have f0 := sa1.fresh hD
    refine ⟨fun i n H' => n = ds.length - i ∧ i ≤ ds.length ∧ ∃ (U : Wd) (m' : Mu) (acc : List D) (av : List V), U.H = H' ∧ Stp T U ∧ Sta X.K U m' ∧ U.H Dd = some (.lst av) ∧ U.F Dd = none ∧ Dd ∉ U.i ∧ Reps X.K U.i U.F acc av ∧
        PostD X.K T ((dCompL g c b (wipeE r (own.map (·.2))) (ds.drop i) m' acc).bind fun xs m2 => Res.ok (D.lst xs) m2) Q (fun c d H => Fly X c d σ H),
      ⟨ds.length, by simp, Nat.zero_le _, T.put Dd (.lst []), m1, [], [], rfl, (Stp.refl T).hid hD, sa1.hid f0.1 f0.2 (by rw [hD]; exact nofun), upd_same, f0.1, f0.2, .nil, pT⟩, ?_⟩
    rintro i n H' ⟨rfl, hi', U, m', acc, av, rfl, stU, saU, hU1, hU2, hU3, rA, pU⟩
    by_cases hlt : i < ds.length
    · refine .inr ⟨((hJ U m' i stU saU).1 _ (List.getElem?_eq_getElem hlt)).1, fun H2 => i + 1 ≤ ds.length ∧ ∃ (U : Wd) (m' : Mu) (acc : List D) (av : List V), U.H = H2 ∧ Stp T U ∧ Sta X.K U m' ∧ U.H Dd = some (.lst av) ∧ U.F Dd = none ∧ Dd ∉ U.i ∧ Reps X.K U.i U.F acc av ∧
        PostD X.K T ((dCompL g c b (wipeE r (own.map (·.2))) (ds.drop (i + 1)) m' acc).bind fun xs m2 => Res.ok (D.lst xs) m2) Q (fun c d H => Fly X c d σ H),
        fun H2 h2 => ⟨ds.length - (i + 1), by omega, rfl, h2.1, h2.2⟩, fun x H2 hy => ?_⟩
      obtain ⟨Y, rfl, stY, saY, rdY⟩ := ((hJ U m' i stU saU).1 _ (List.getElem?_eq_getElem hlt)).2 x H2 hy
      obtain ⟨y1, y2, y3⟩ := stY.frame Dd _ (by exact nofun) hU1 hU2 hU3
      rw [List.drop_eq_getElem_cons hlt] at pU
      unfold dCompL at pU
      have stT := stU.trans stY
      cases qg : g ds[i] (wipeE r (own.map (·.2))) with
      | none => rw [qg] at pU; exact (show False from pU).elim
      | some e1 =>
        rw [qg] at pU
        dsimp only at pU
        intro s0 H0 C0 cl0 fp0
        refine hg s0 H0 C0 cl0 fp0 Y (wipeE r (own.map (·.2))) m' (wipe σ (own.map (·.2))) ds[i] x e1 _ saY (reW.stp stT) rdY qg ?_
        intro σ1 re1 bs
        refine ⟨?_, ?_⟩
        · rw [bs _ hsl]
          exact wipe_wipe _ _
        intro s0 H0 C0 cl0 fp0
        cases qc : c e1 m' with
        | stuck => rw [qc] at pU; exact (show False from pU).elim
        | exc C fs m2 => rw [qc] at pU; exact (show False from pU).elim
        | ok k m2 =>
          rw [qc] at pU
          refine ht s0 H0 C0 cl0 fp0 Y e1 m' σ1 _ saY re1 ?_
          rw [qc]
          intro k' Z stZ saZ hk
          cases (show k = k' from hk)
          obtain ⟨z1, z2, z3⟩ := stZ.frame Dd _ (by exact nofun) y1 y2 y3
          cases k with
          | false =>
            exact iteF ⟨hlt, Z, m2, acc, av, rfl, stT.trans stZ, saZ, z1, z2, z3, (rA.stp stY).stp stZ, pU⟩
          | true =>
            refine iteT ?_
            intro s0 H0 C0 cl0 fp0
            dsimp only at pU
            cases qb : b e1 m2 with
            | stuck => rw [qb] at pU; exact (show False from pU).elim
            | exc C fs m3 => rw [qb] at pU; exact (show False from pU).elim
            | ok dx m3 =>
              rw [qb] at pU
              refine he s0 H0 C0 cl0 fp0 Z e1 m2 σ1 _ saZ (re1.stp stZ) ?_
              rw [qb]
              intro vx V1 stV saV rx
              obtain ⟨w1, w2, w3⟩ := stV.frame Dd _ (by exact nofun) z1 z2 z3
              dsimp only at pU
              split at pU
              · rename_i hlen
                refine ⟨av, w1, by rw [← rA.len]; exact hlen, hlt, V1.put Dd (.lst (av ++ [vx])), m3, acc ++ [dx], av ++ [vx], rfl, ((stT.trans stZ).trans stV).hid hD, saV.hid w2 w3 (by rw [w1]; exact nofun), upd_same, w2, w3, ((((rA.stp stY).stp stZ).stp stV)).append (.cons rx .nil), pU⟩
              · exact (show False from pU).elim
    · have e : i = ds.length := by omega
      subst e
      rw [List.drop_length] at pU
      refine .inl ⟨(hJ U m' _ stU saU).2 (Nat.le_refl _), ?_⟩
      have pU : PostD X.K T (Res.ok (D.lst acc) m') Q (fun c d H => Fly X c d σ H) := pU
      exact pU (.ref Dd) (U.keep Dd (.lst av)) (stU.kept hD hU2) (saU.keep hU1 hU2 hU3 (by exact nofun)) (.lst (.inl (.inl upd_same)) (rA.mono (List.prefix_refl _) (Ext.updNew hU2)))
theorem pd_lc (hi : PDI X tg iter t) (hN : X.N.Nodup) (ok : BlkOk X.N X.env.scope scope own)
    (hg : ∀ s H C cl fp, PDG (Bk X scope s H C cl fp) tg g sl) (ht : ∀ s H C cl fp, PDTs (Bk X scope s H C cl fp) ifs c) (he : ∀ s H C cl fp, PDE (Bk X scope s H C cl fp) elt b)
    (hc : X.calm = true) (hsl : ∀ i ∈ sl, i ∈ own.map (·.2) := by decide) (hs : ∀ x, foldedSetIterable iter X.env x = pure x := by intro _; rfl) :
    PDE X (.ListComp elt [⟨tg, iter, ifs, 0⟩] scope pos) (dComp t g c b (own.map (·.2))) :=
  pd_of (pe_lc (g := bG X scope tg) (tt := bT X scope ifs) (te := bE X scope elt) hc hN (mxI X tg iter) ok (fun s H C cl fp => ⟨fun pins s1 σ H1 v u Q I r h => h s H C cl fp pins s1 u I r⟩) (fun s H C cl fp => ⟨fun pins s1 σ H1 Q I h => h s H C cl fp pins s1 I⟩) (fun s H C cl fp => ⟨fun pins s1 σ H1 Q I h => h s H C cl fp pins s1 I⟩) hs)
    fun S r m σ Q sa re p => lc_go hi hg ht he hsl sa re p
theorem pds_setLc {i : Nat} {y : Str} {py : Pos} (hi : PDI X tg iter t) (hN : X.N.Nodup) (ok : BlkOk X.N X.env.scope scope own)
    (hg : ∀ s H C cl fp, PDG (Bk X scope s H C cl fp) tg g sl) (ht : ∀ s H C cl fp, PDTs (Bk X scope s H C cl fp) ifs c) (he : ∀ s H C cl fp, PDE (Bk X scope s H C cl fp) elt b)
    (hc : X.calm = true) (hsw : swapsWith (.ListComp elt [⟨tg, iter, ifs, 0⟩] scope pos) (some (.Name y py)) spos.line X.env = pure true) (hsl : ∀ i ∈ sl, i ∈ own.map (·.2) := by decide) (hy : X.N[i]? = some y := by rfl) (hyl : X.env.scope.names.lookup y = some .local := by rfl) (hs : ∀ x, foldedSetIterable iter X.env x = pure x := by intro _; rfl) :
    PDS X (.Assign [.Name y py] (.ListComp elt [⟨tg, iter, ifs, 0⟩] scope pos) spos) (dSet i (dComp t g c b (own.map (·.2)))) := by
  refine ps_of (ps_setLc (g := bG X scope tg) (tt := bT X scope ifs) (te := bE X scope elt) hc hN hy hyl hsw (mxI X tg iter) ok (fun s H C cl fp => ⟨fun pins s1 σ H1 v u Q I r h => h s H C cl fp pins s1 u I r⟩) (fun s H C cl fp => ⟨fun pins s1 σ H1 Q I h => h s H C cl fp pins s1 I⟩) (fun s H C cl fp => ⟨fun pins s1 σ H1 Q I h => h s H C cl fp pins s1 I⟩) hs) fun S r m σ N sa re p => ?_
  exact lc_go hi hg ht he hsl sa re (PDE.stm re p fun d m1 v T st sa1 rd q => q _ T (Stp.refl T) sa1 ((re.stp st).set i rd))

/-! ### stores -/
variable {a e o : Expr} {es : List Expr} {ta tb to : DE}
/-- xs[i] = v, xs of the store -/
def dPutI (tv to ti : DE) : DS := fun e m => rsOf e (tv e m) fun v m1 => rsOf e (to e m1) fun o m2 => rsOf e (ti e m2) fun i m3 => match o, i with
  | .loc n, .int k => match m3[n]? with
    | some (.lst ds) => match ixN ds.length k with
      | some j => .nx e (m3.set n (.lst (ds.set j v)))
      | none => .stuck
    | _ => .stuck
  | _, _ => .stuck
theorem rsOf_bind {e : En} {r : Res D} {k : D → Mu → RS} {N : Ends} {S : Wd} {σ : L2.St} (re : RelE X.K S e σ) (p : PostS X.K S (rsOf e r k) N (Fly X)) {Q : VK}
    (h : ∀ d m v T, Stp S T → Sta X.K T m → Rep X.K T.i T.F d v → PostS X.K T (k d m) N (Fly X) → Q v T.H) : PostD X.K S r Q (fun c d H => Fly X c d σ H) := PDE.stm re p h
theorem pds_putI {tpos : Pos} {i : Expr} {ti : DE} (hv : PDE X a ta) (ho : PDE X o to) (hi : PDE X i ti) (hs : swapsWithSole [.Subscript o i tpos] a pos.line X.env = pure false := by rfl) (hw : swappedStores [.Subscript o i tpos] a X.env = pure none := by rfl)
    (h1 : (assignEach [.Subscript o i tpos] X.env).map (·.2) = [assign (.Subscript o i tpos) X.env] := by rfl)
    (ha : ∀ v, assign (.Subscript o i tpos) X.env v = (do
      let ov ← holding [v] (eval o X.env)
      let iv ← holding [v, ov] (eval i X.env)
      standAt tpos
      holding [v, ov, iv] (setItem ov iv v)
      release [v, ov, iv] []) := by intro _; rfl) : PDS X (.Assign [.Subscript o i tpos] a pos) (dPutI ta to ti) := by
  refine ps_of (ps_asg (mxE X a) (pg_sub (mxE X o) (mxE X i) set_list ha) hs hw h1) fun S r m σ N sa re p => ?_
  refine hv S r m σ _ sa re (PDE.stm re p fun v m1 vv T st sa1 rv q => ?_)
  refine ho T r m1 σ _ sa1 (re.stp st) (PDE.stm (re.stp st) q fun d m2 vo U st2 sa2 ro q2 => ?_)
  refine hi U r m2 σ _ sa2 ((re.stp st).stp st2) (PDE.stm ((re.stp st).stp st2) q2 fun ii m3 vi Y st3 sa3 ri q3 => ?_)
  split at q3
  · rename_i n k
    cases ri
    split at q3
    · rename_i ds e1
      split at q3
      · rename_i j ej
        cases (ro.stp st3) with
        | loc hn =>
          obtain ⟨xs, h1, h2⟩ := sa3.ok n _ _ hn e1
          refine ⟨_, xs, k, j, rfl, rfl, h1, by rw [← h2.len]; exact ej, ?_⟩
          obtain ⟨stZ, saZ⟩ := sa3.put (o := .lst (xs.set j vv)) (q := .lst (ds.set j v)) hn ⟨_, upd_same, Reps.set ((rv.stp st2).stp st3) j h2⟩
          exact q3 σ _ stZ saZ ((((re.stp st).stp st2).stp st3).stp stZ)
      · exact q3.elim
    · exact q3.elim
  · exact q3.elim
/-- o.f = v, o an instance of the store of one of these classes -/
def dPutF (Cs : List Addr) (f : Str) (tv to : DE) : DS := fun e m => rsOf e (tv e m) fun v m1 => rsOf e (to e m1) fun o m2 => match o with
  | .loc n => match m2[n]? with
    | some (.ins C fs) => if C ∈ Cs ∧ fs.length < 1000 then .nx e (m2.set n (.ins C (putD f v fs))) else .stuck
    | _ => .stuck
  | _ => .stuck
theorem put_reps {K : PySem.W.Frag} {ι : List Addr} {F : Hp} {f : Str} {d : D} {v : V} (h : Rep K ι F d v) : ∀ {fs : List (Str × D)} {vs : List (Str × V)}, RepF K ι F fs vs → RepF K ι F (putD f d fs) (putF f v vs)
  | _, _, .nil => .cons h .nil
  | _, _, .cons (f := g) h1 r => by
    unfold putD putF
    split
    · exact .cons h r
    · exact .cons h1 (put_reps h r)
theorem pds_putF {f : Str} {pos' : Pos} {Cs : List Addr} (hv : PDE X a ta) (ho : PDE X o to) (hC : ∀ C ∈ Cs, Cls X.K C ∧ NoAttr X.K C f) (hs : swapsWith a (some (.Attribute o f pos')) pos.line X.env = pure false := by rfl) :
    PDS X (.Assign [.Attribute o f pos'] a pos) (dPutF Cs f ta to) := by
  refine ps_of (ps_fld (mxE X o) (mxE X a) hs) fun S r m σ N sa re p => ?_
  refine hv S r m σ _ sa re (PDE.stm re p fun v m1 vv T st sa1 rv q => ?_)
  refine ho T r m1 σ _ sa1 (re.stp st) (PDE.stm (re.stp st) q fun d m2 vo U st2 sa2 ro q2 => ?_)
  split at q2
  · rename_i n
    split at q2
    · rename_i C fs e1
      split at q2
      · rename_i hc
        cases ro with
        | loc hn =>
          obtain ⟨dx, vs, h1, h2⟩ := sa2.ok n _ _ hn e1
          obtain ⟨c1, c2⟩ := hC C hc.1
          refine ⟨_, C, dx, vs, rfl, h1, c1, c2, by rw [← h2.len]; exact hc.2, ?_⟩
          obtain ⟨stZ, saZ⟩ := sa2.put (o := .ins C dx (putF f vv vs)) (q := .ins C (putD f v fs)) hn ⟨dx, _, upd_same, put_reps (rv.stp st2) h2⟩
          exact q2 σ _ stZ saZ (((re.stp st).stp st2).stp stZ)
      · exact q2.elim
    · exact q2.elim
  · exact q2.elim

/-! ### what was of the store is kept for good -/
end
mutual
def below (n : Nat) : D → Bool
  | .loc k => decide (k < n)
  | .tup ds => belows n ds
  | .lst ds => belows n ds
  | .obj _ ds => belows n ds
  | .xob _ _ => false
  | .lam _ _ => false
  | .clo _ _ => false
  | _ => true
def belows (n : Nat) : List D → Bool
  | [] => true
  | d :: ds => below n d && belows n ds
end
def Mo.below (n : Nat) : Mo → Bool
  | .lst ds => belows n ds
  | .ins _ fs => belows n (fs.map (·.2))
  | .exo _ none => true
  | .exo _ (some k) => decide (k < n)
  | .exd fs => belows n (fs.map (·.2))
  | .dik kvs => belows n (kvs.map (·.2))
  | .dit kvs => belows n (kvs.map (·.2))
/-- nothing of the store names what is not there -/
def Cl (m : Mu) : Prop := ∀ o ∈ m, o.below m.length = true
def Wd.cut (Z : Wd) (l : List Addr) : Wd := ⟨l, fun a => if a ∈ Z.i then (if a ∈ l then none else Z.H a) else Z.F a, Z.H⟩
section
variable {K : PySem.W.Frag} {T Z : Wd}
theorem cutF_out {a : Addr} {o : HO} {m : Mu} (sa : Sta K Z m) (h : Z.F a = some o) (l : List Addr) : (Z.cut l).F a = some o := by
  have : a ∉ Z.i := fun z => by rw [sa.dis a z] at h; cases h
  show (if a ∈ Z.i then _ else Z.F a) = some o
  rw [if_neg this]; exact h
mutual
theorem Rep.cut {m : Mu} (sa : Sta K Z m) {l : List Addr} (hl : l <+: Z.i) : ∀ {d : D} {v : V}, Rep K Z.i Z.F d v → below l.length d = true → Rep K l (Z.cut l).F d v
  | _, _, .non, _ => .non
  | _, _, .bl b, _ => .bl b
  | _, _, .int i, _ => .int i
  | _, _, .str x, _ => .str x
  | _, _, .tup h r, hb => .tup (SqT.ext' h fun a o e => cutF_out sa e l) (Reps.cut sa hl r (by unfold below at hb; exact hb))
  | _, _, .lst h r, hb => .lst (SqL.ext' h fun a o e => cutF_out sa e l) (Reps.cut sa hl r (by unfold below at hb; exact hb))
  | _, _, .obj h n r, hb => .obj (cutF_out sa h l) n (Reps.cut sa hl r (by unfold below at hb; exact hb))
  | _, _, .loc (n := k) h, hb => .loc (by
      unfold below at hb
      have hk : k < l.length := of_decide_eq_true hb
      obtain ⟨t, e⟩ := hl
      rw [← e, List.getElem?_append_left hk] at h
      exact h)
  | _, _, .val v, _ => .val v
  | _, _, .xob h n r, hb => by simp [below] at hb
  | _, _, .lam h, hb => by simp [below] at hb
  | _, _, .clo h h2 r, hb => by simp [below] at hb
theorem Reps.cut {m : Mu} (sa : Sta K Z m) {l : List Addr} (hl : l <+: Z.i) : ∀ {d : List D} {v : List V}, Reps K Z.i Z.F d v → belows l.length d = true → Reps K l (Z.cut l).F d v
  | _, _, .nil, _ => .nil
  | _, _, .cons h r, hb => by
    unfold belows at hb
    obtain ⟨h1, h2⟩ := Bool.and_eq_true_iff.mp hb
    exact .cons (Rep.cut sa hl h h1) (Reps.cut sa hl r h2)
end
theorem RepF.join : ∀ {fs : List (Str × D)} {vs : List (Str × V)} {i : List Addr} {F : Hp}, vs.map (·.1) = fs.map (·.1) → Reps K i F (fs.map (·.2)) (vs.map (·.2)) → RepF K i F fs vs
  | [], [], _, _, _, _ => .nil
  | [], _ :: _, _, _, h, _ => by simp at h
  | _ :: _, [], _, _, h, _ => by simp at h
  | (f, d) :: fs, (g, v) :: vs, _, _, h, r => by
    simp only [List.map_cons, List.cons.injEq] at h
    obtain ⟨rfl, h⟩ := h
    simp only [List.map_cons] at r
    cases r with
    | cons h1 h2 => exact .cons h1 (RepF.join h h2)
theorem cut_ok {mT m : Mu} (saT : Sta K T mT) (st : Stp T Z) (sa : Sta K Z m) (hb : ∀ o ∈ m.take mT.length, o.below mT.length = true) : Stp T (Z.cut T.i) ∧ Sta K (Z.cut T.i) (m.take mT.length) := by
  have hpre := st.pre
  have hlen : mT.length ≤ m.length := by
    rw [← saT.len, ← sa.len]; exact hpre.length_le
  have sub : ∀ a, a ∈ T.i → a ∈ Z.i := fun a h => hpre.subset h
  refine ⟨⟨List.prefix_refl _, fun a o e => cutF_out sa (st.ext a o e) T.i, fun a o hn h1 h2 h3 => ?_, st.old⟩, saT.nd, ?_, fun a o e => ?_, fun a ha => ?_, fun a ha => sa.tr a (sub a ha), fun n a o h1 h2 => ?_, fun q hq => ?tb⟩
  case tb =>
    obtain ⟨ps, t1, t2, t3, t4, t5⟩ := sa.tb q hq
    exact ⟨ps, t1, by show (if q.1 ∈ Z.i then _ else Z.F q.1) = none; rw [if_neg t3]; exact t2, fun z => t3 (sub _ z), t4, fun pos cv hc => let ⟨c, c1, c2⟩ := t5 pos cv hc; ⟨c, c1, cutF_out sa c2 T.i⟩⟩
  · obtain ⟨k1, k2, k3⟩ := st.frame a o hn h1 h2 h3
    exact ⟨k1, by show (if a ∈ Z.i then _ else Z.F a) = none; rw [if_neg k3]; exact k2, h3⟩
  · show T.i.length = _
    rw [List.length_take, saT.len]
    omega
  · have e : (if a ∈ Z.i then (if a ∈ T.i then none else Z.H a) else Z.F a) = some o := e
    show Z.H a = some o
    split at e
    · split at e
      · cases e
      · exact e
    · exact sa.sub a o e
  · show (if a ∈ Z.i then (if a ∈ T.i then none else Z.H a) else Z.F a) = none
    have ha : a ∈ T.i := ha
    rw [if_pos (sub a ha), if_pos ha]
  · have h1 : T.i[n]? = some a := h1
    have h1' := pre_get hpre h1
    have hn : n < mT.length := by rw [← saT.len]; exact (List.getElem?_eq_some_iff.mp h1).1
    have h2' : m[n]? = some o := by
      rw [List.getElem?_take_of_lt hn] at h2; exact h2
    have hbo := hb o (List.mem_of_getElem? h2)
    have q := sa.ok n a o h1' h2'
    rw [← saT.len] at hbo
    cases o with
    | lst ds => obtain ⟨xs, q1, q2⟩ := q; exact ⟨xs, q1, q2.cut sa hpre hbo⟩
    | ins C fs => obtain ⟨dx, vs, q1, q2⟩ := q; exact ⟨dx, vs, q1, RepF.join q2.split.1 (q2.split.2.cut sa hpre hbo)⟩
    | exo C d =>
      cases d with
      | none => exact q
      | some k =>
        obtain ⟨dx, q1, q2⟩ := q
        have hk : k < T.i.length := of_decide_eq_true hbo
        refine ⟨dx, ?_, q2⟩
        obtain ⟨t, ht⟩ := hpre
        have q1' := q1
        rw [← ht, List.getElem?_append_left hk] at q1'
        exact q1'
    | exd fs => obtain ⟨vs, q1, q2⟩ := q; exact ⟨vs, q1, RepF.join q2.split.1 (q2.split.2.cut sa hpre hbo)⟩
    | dik kvs => obtain ⟨vs, q1, q0, q2⟩ := q; exact ⟨vs, q1, q0, q2.cut sa hpre hbo⟩
    | dit kvs => obtain ⟨vs, q1, q0, q2⟩ := q; exact ⟨vs, q1, q0, q2.cut sa hpre hbo⟩
/-- what a number of the store beyond the cut has become -/
theorem cut_at {mT m : Mu} (saT : Sta K T mT) (st : Stp T Z) (sa : Sta K Z m) {n : Nat} {a : Addr} (hn : mT.length ≤ n) (h : Z.i[n]? = some a) : (Z.cut T.i).F a = Z.H a := by
  have ha : a ∈ Z.i := List.mem_of_getElem? h
  have hna : a ∉ T.i := fun z => by
    obtain ⟨j, hj⟩ := List.getElem?_of_mem z
    have hj' := pre_get st.pre hj
    obtain ⟨l1, e1⟩ := List.getElem?_eq_some_iff.mp hj'
    obtain ⟨l2, e2⟩ := List.getElem?_eq_some_iff.mp h
    have := (List.getElem_inj sa.nd).mp (e1.trans e2.symm)
    have := (List.getElem?_eq_some_iff.mp hj).1
    rw [saT.len] at this
    omega
  show (if a ∈ Z.i then (if a ∈ T.i then none else Z.H a) else Z.F a) = Z.H a
  rw [if_pos ha, if_neg hna]
end
section
variable {X : Cx} {e o : Expr} {es : List Expr} {t : DA} {pos p : Pos} {x : Str} {k : Nat} {C : Addr} {G : DFn}
/-- C(..): a new instance that never changes behind its __init__ -/
structure KT (P : Program) (w : World) (K : PySem.W.Frag) (mg : Str → Option Value) (base : Heap) (k : Nat) (x : Str) (C : Addr) (G : DFn) : Prop where
  mgx : mg x = some (.ref C)
  ex : ∃ (f : Addr) (fd : FuncData) (ps : List Str) (dds : List D) (G0 : DFn), Mk K C f ∧ FnD P w K mg base k f fd ps G0 ∧ Bd K fd ps dds ∧ G = padF ps.length dds G0
open Classical in
noncomputable def mkObj (C : Addr) (m : Mu) (r : Res D) : Res D := match r with
  | .ok .non m2 => match m2[m.length]? with
    | some (.ins C' fs) => if C' = C ∧ m2 = m ++ [.ins C' fs] ∧ Cl m ∧ belows m.length (fs.map (·.2)) = true then .ok (.obj ⟨C, fs.map (·.1)⟩ (fs.map (·.2))) m else .stuck
    | _ => .stuck
  | .exc C' fs m2 => .exc C' fs m2
  | _ => .stuck
noncomputable def dMake (C : Addr) (G : DFn) (t : DA) : DE := fun e m => (t e m).bind fun ds m1 => mkObj C m1 (G (.loc m1.length :: ds) (m1 ++ [.ins C []]))
theorem run_mk {pins : List (Addr × Obj)} {σ : L2.St} {T : Wd} {m : Mu} {s : Shared} {Q : VK} {us : List Value} {vs : List V} {das : List D} (F : KT X.prog X.w X.K X.mg X.base k x C G) (hr : Room (k + 1) X.A)
    (I : Inv X pins σ T.H s) (sa : Sta X.K T m) (r : Reps X.K T.i T.F das vs) (rv : Vals vs us) (h : PostD X.K T (mkObj C m (G (.loc m.length :: das) (m ++ [.ins C []]))) Q (fun c d H => Fly X c d σ H)) :
    wpAny (model X.prog X.w) X.A (call (.ref C) us) (EP X pins σ Q) X.xe s := by
  obtain ⟨f, fd, ps, dds, G0, M, hf, hb, rfl⟩ := F.ex
  obtain ⟨dsv, dvs, hb1, hd1, hD⟩ := hb.ex
  -- the new instance and its dict
  have nx : T.H (s.heap.objs.size + 1) = none := I.hok.fresh (Nat.le_succ _)
  have ndx : T.H s.heap.objs.size = none := I.hok.fresh (Nat.le_refl _)
  have ne : s.heap.objs.size ≠ s.heap.objs.size + 1 := Nat.ne_of_lt (Nat.lt_succ_self _)
  have I2 := Inv.made (C := C) I
  have st1 := Stp.new sa (o := .own (s.heap.objs.size + 1)) ndx
  have sa1 := sa.new (o := .own (s.heap.objs.size + 1)) ndx
  have nx1 : (T.new s.heap.objs.size (.own (s.heap.objs.size + 1))).H (s.heap.objs.size + 1) = none := by
    show upd T.H _ _ _ = none
    rw [upd_ne ne.symm]; exact nx
  have st2 := Stp.tok sa1 (o := .ins C s.heap.objs.size []) nx1
  have sa2 := sa1.tok (o := .ins C s.heap.objs.size []) nx1 (q := .ins C []) ⟨s.heap.objs.size, [], upd_same, .nil⟩
  have st12 := st1.trans st2
  generalize hT2 : (T.new s.heap.objs.size (.own (s.heap.objs.size + 1))).tok (s.heap.objs.size + 1) (.ins C s.heap.objs.size []) = T2 at st2 sa2 st12
  have hH2 : T2.H = upd (upd T.H s.heap.objs.size (.own (s.heap.objs.size + 1))) (s.heap.objs.size + 1) (.ins C s.heap.objs.size []) := by rw [← hT2]; rfl
  have hi2 : T2.i = T.i ++ [s.heap.objs.size + 1] := by rw [← hT2]; rfl
  have hloc : T2.i[m.length]? = some (s.heap.objs.size + 1) := by
    rw [hi2, ← sa.len, List.getElem?_append_right (Nat.le_refl _), Nat.sub_self]; rfl
  have r1 : Reps X.K T2.i T2.F (.loc m.length :: (das ++ dds)) (V.ref (s.heap.objs.size + 1) :: (vs ++ dvs)) := .cons (.loc hloc) ((r.stp st12).append (hD _ _))
  have r2 : Vals (V.ref (s.heap.objs.size + 1) :: (vs ++ dvs)) (Value.ref (s.heap.objs.size + 1) :: (us ++ dsv)) := .cons rfl (rv.append hd1)
  unfold padF at h
  have hcons : D.loc m.length :: das ++ dds = D.loc m.length :: (das ++ dds) := rfl
  rw [hcons] at h
  split at h
  · rename_i hl
    have hlv : (V.ref (s.heap.objs.size + 1) :: (vs ++ dvs)).length = ps.length := by rw [← r1.len]; exact hl
    have hl2 : (Value.ref (s.heap.objs.size + 1) :: us ++ dsv).length = ps.length := by
      have e := r2.length
      rw [hlv] at e
      exact e.symm
    rw [← hH2] at I2
    have hsp : spD X.K ps.length G0 (V.ref (s.heap.objs.size + 1) :: (vs ++ dvs)) T2.H (fun v H2 => v = .non ∧ Q (.ref (s.heap.objs.size + 1)) H2) (fun c d H => Fly X c d σ H) := by
      refine ⟨hlv, T2, m ++ [.ins C []], _, rfl, sa2, r1, ?_⟩
      cases hG : G0 (D.loc m.length :: (das ++ dds)) (m ++ [.ins C []]) with
      | stuck => rw [hG] at h; exact (show False from h).elim
      | exc C' fs m2 =>
        rw [hG] at h
        exact fun dd vs' Z stZ hn saZ h1 h2 => h dd vs' Z (st12.trans stZ) (st12.old dd hn) saZ h1 h2
      | ok dv m2 =>
        rw [hG] at h
        intro v Z stZ saZ rdv
        unfold mkObj at h
        split at h
        · rename_i heq
          cases heq
          cases rdv
          refine ⟨rfl, ?_⟩
          split at h
          · rename_i C' fs e1
            split at h
            · rename_i hc
              obtain ⟨rfl, hm2, hcl, hbel⟩ := hc
              have hzi := pre_get stZ.pre hloc
              obtain ⟨dx, vv, q1, q2⟩ := saZ.ok _ _ _ hzi e1
              have htk : m2.take m.length = m := by rw [hm2]; simp
              have stTZ := st12.trans stZ
              obtain ⟨c1, c2⟩ := cut_ok sa stTZ saZ (by rw [htk]; exact hcl)
              rw [htk] at c2
              have hbel' : belows T.i.length (fs.map (·.2)) = true := by rw [sa.len]; exact hbel
              refine h (.ref (s.heap.objs.size + 1)) (Z.cut T.i) c1 c2 (.obj (dx := dx) (vs := vv) ?_ q2.split.1 (q2.split.2.cut saZ stTZ.pre hbel'))
              rw [cut_at sa stTZ saZ (Nat.le_refl _) hzi]
              exact q1
            · exact h.elim
          · exact h.elim
        · rename_i heq; cases heq
        · exact h.elim
    refine wpAny_call (make_map (f := f) I.kIn M.makes M.init (beq_iff_eq.mp M.fn) (codeAny_mono (hf.run _ X.stack _ _ ⟨Value.ref (s.heap.objs.size + 1) :: us, []⟩ (Value.ref (s.heap.objs.size + 1) :: (us ++ dsv)) _ _ _ (hr.make C us [])
      (I2.env0.make C us []) (hb1 _ (Value.ref (s.heap.objs.size + 1) :: us) I2.kIn hl2) r2 hsp) fun r s' hq' => ?_))
    cases r with
    | error e =>
      obtain ⟨a, B, sI, pins', σ', H', cls, d, e1, I', nb, up, sky, na, os, ag, e2, fl⟩ := XE.of_call I2 (W := fun c d σ' H => σ' = σ ∧ Fly X c d σ H) (fun cls d H' h => ⟨rfl, h⟩) hq'
      exact fl e s' ⟨a, B, sI, pins', σ', H', cls, d, e1, I', nb, up, sky, na, os, ag, rfl, rfl, e2, rfl⟩
    | ok fl =>
      cases fl with
      | ret u =>
        obtain ⟨v, H', I3, rv3, ev, q3⟩ := I2.after hq'
        subst ev
        exact ⟨rv3, ⟨V.ref (s.heap.objs.size + 1), H', I3, rfl, q3⟩⟩
      | next => exact False.elim hq'
      | brk => exact False.elim hq'
      | cont => exact False.elim hq'
  · exact (show False from h).elim
theorem pd_make (F : KT X.prog X.w X.K X.mg X.base k x C G) (hr : Room (k + 1) X.A) (ha : PDA X (e :: es) t)
    (hg : Gl X x := by rfl) (hdb : (x == ("__debug__" : Str)) = false := by decide) (he : starEach (e :: es) X.env = (false, eval e X.env) :: starEach es X.env := by exact se_cons _ _ _ rfl) (hpl : (backTo pos (starEach es X.env)).any (·.1) = false := by exact se_any _ _ _ rfl) :
    PDE X (.Call (.Name x p) (e :: es) [] pos) (dMake C G t) := by
  intro S r m σ Q sa re q pins s I
  refine wpAny_Call_Name_kw (ld_glob I hg F.mgx ?_ hdb)
  obtain ⟨_, _, _, _, _, M, _⟩ := F.ex
  refine PySem.W.callWith_K (h₀ := X.base) I.ok.mod.kin M.kp (thn (ha.run sa re q I pos) ?_) he hpl
  rintro us s1 ⟨xs, ds, m1, T, st, sa1, rds, rv, I1, q1⟩
  exact ⟨I1.kIn, run_mk F hr I1 sa1 rds rv q1⟩
end
end DL

namespace DL
open PySem PySem.Spec PyProof.Rows L2
variable [LamTab]
/-! ### isinstance -/
inductive Tg where
  | prim (n : String)
  | own (C : Addr)
  deriving DecidableEq
def Tg.val : Tg → Value
  | .prim n => .type n
  | .own C => .ref C
def tagOf (m : Mu) : D → Option Tg
  | .non => some (.prim "NoneType")
  | .bl _ => some (.prim "bool")
  | .int _ => some (.prim "int")
  | .str _ => some (.prim "str")
  | .tup _ => some (.prim "tuple")
  | .lst _ => some (.prim "list")
  | .obj c _ => some (.own c.a)
  | .loc n => match m[n]? with
    | some (.lst _) => some (.prim "list")
    | some (.ins C _) => some (.own C)
    | _ => none
  | _ => none
structure InsK (K : PySem.W.Frag) (C : Addr) : Prop where
  cl : Cls K C
  ha : PySem.W.findIn K (.ref C) "__class__" = some (some (.builtin "object.__class__"))
  hn : PySem.W.specialIn K (.builtin "object.__class__") "__get__" = some (some (.builtin "getset_descriptor.__get__"))
  htk : PySem.W.takesIn K (.builtin "object.__class__") = some true
  hm : PySem.W.mroIn K C (.type "object") = some true
/-- what a class answers by the tag: the built-in kinds, then own classes -/
structure Ans where
  prim : List String
  own : List (Addr × Bool)
def primNames : List String := ["NoneType", "bool", "int", "str", "tuple", "list"]
def Ans.get (A : Ans) : Tg → Option Bool
  | .prim n => if n ∈ primNames then some (decide (n ∈ A.prim)) else none
  | .own C => A.own.lookup C
structure AnsOk (K : PySem.W.Frag) (A : Ans) (us : List Value) : Prop where
  prim : ∀ n ∈ primNames, PySem.W.kitAny K (.type n) us = some (decide (n ∈ A.prim))
  own : ∀ p ∈ A.own, PySem.W.kitAny K (.ref p.1) us = some p.2 ∧ InsK K p.1
theorem lookup_mem {α : Type} {C : Addr} {b : α} : ∀ {l : List (Addr × α)}, l.lookup C = some b → (C, b) ∈ l
  | (D, x) :: r, h => by
    rw [List.lookup_cons] at h
    cases hb : C == D with
    | true =>
      rw [hb] at h
      cases h
      rw [beq_iff_eq.mp hb]; exact List.mem_cons_self
    | false => rw [hb] at h; exact List.mem_cons_of_mem _ (lookup_mem h)
theorem kitOne_any {K : PySem.W.Frag} {t u : Value} {b : Bool} (h : PySem.W.kitAny K t [u] = some b) : PySem.W.kitOne K t u = some b := by
  unfold PySem.W.kitAny at h
  cases q : PySem.W.kitOne K t u with
  | none => rw [q] at h; cases h
  | some c =>
    rw [q] at h
    cases c with
    | true => cases h; rfl
    | false => cases h; rfl
section
variable {K : PySem.W.Frag} {S : Wd} {m : Mu}
theorem SqT.tyx {H : Hp} {a : Addr} {xs : List V} (h : SqT K H a xs) : TyX K H (.ref a) (.type "tuple") := by
  rcases h with (h | ⟨o, h⟩) | ⟨o, its, n, h, hc, _⟩
  · exact .base (.tup h)
  · exact .fTuple h
  · exact .kTuple h hc
theorem SqL.tyx {H : Hp} {a : Addr} {xs : List V} (h : SqL K H a xs) : TyX K H (.ref a) (.type "list") := by
  rcases h with (h | ⟨o, h⟩) | ⟨o, its, n, h, hc, _⟩
  · exact .base (.lst h)
  · exact .base (.frz h)
  · exact .kList h hc
theorem tag_ok {A : Ans} {us : List Value} (hA : AnsOk K A us) {d : D} {v : V} {t : Tg} {b : Bool} (sa : Sta K S m) (r : Rep K S.i S.F d v) (ht : tagOf m d = some t) (hb : A.get t = some b) : ∃ ty, TyX K S.H v ty ∧ PySem.W.kitAny K ty us = some b := by
  have pr : ∀ {n : String}, Tg.prim n = t → PySem.W.kitAny K (.type n) us = some b := fun {n} e => by
    subst e
    unfold Ans.get at hb
    dsimp only at hb
    split at hb
    · rename_i hn
      cases hb
      exact hA.prim n hn
    · cases hb
  have ow : ∀ {C : Addr}, Tg.own C = t → PySem.W.kitAny K (.ref C) us = some b ∧ InsK K C := fun {C} e => by
    subst e
    exact hA.own (C, b) (lookup_mem hb)
  cases r with
  | non => cases ht; exact ⟨_, .base .non, pr rfl⟩
  | bl x => cases ht; exact ⟨_, .base (.bl x), pr rfl⟩
  | int x => cases ht; exact ⟨_, .base (.int x), pr rfl⟩
  | str x => cases ht; exact ⟨_, .base (.str x), pr rfl⟩
  | tup h1 h2 => cases ht; exact ⟨_, SqT.tyx (SqT.ext' h1 sa.sub), pr rfl⟩
  | lst h1 h2 => cases ht; exact ⟨_, SqL.tyx (SqL.ext' h1 sa.sub), pr rfl⟩
  | obj h1 h2 h3 =>
    cases ht
    obtain ⟨k1, k2⟩ := ow rfl
    exact ⟨_, .base (.ins (sa.sub _ _ h1) k2.cl k2.ha k2.hn k2.htk k2.hm), k1⟩
  | @loc n a h =>
    unfold tagOf at ht
    dsimp only at ht
    split at ht
    · rename_i ds e
      cases ht
      obtain ⟨xs, q1, q2⟩ := sa.ok n a _ h e
      exact ⟨_, .base (.lst q1), pr rfl⟩
    · rename_i C fs e
      cases ht
      obtain ⟨dx, vs, q1, q2⟩ := sa.ok n a _ h e
      obtain ⟨k1, k2⟩ := ow rfl
      exact ⟨_, .base (.ins q1 k2.cl k2.ha k2.hn k2.htk k2.hm), k1⟩
    · cases ht
  | val v => cases ht
  | xob h1 h2 h3 => cases ht
  | lam h => cases ht
  | clo h h2 h3 => cases ht
end
section
variable {X : Cx} {a e o c : Expr} {es : List Expr} {ta : DE} {t : DA} {pos p q : Pos} {x : Str}
/-- isinstance(a, C) -/
def dIsi (A : Ans) (ta : DE) : DE := fun e m => (ta e m).bind fun d m1 => match (tagOf m1 d).bind A.get with
  | some b => .ok (.bl b) m1
  | none => .stuck
theorem isi_fin {A : Ans} {us : List Value} (hA : AnsOk X.K A us) {d : D} {m : Mu} {T : Wd} {Q : VK} {W : XK} {v : V} (sa : Sta X.K T m) (rd : Rep X.K T.i T.F d v)
    (h : PostD X.K T (match (tagOf m d).bind A.get with
      | some b => .ok (.bl b) m
      | none => .stuck) Q W) : ∃ b ty, TyX X.K T.H v ty ∧ PySem.W.kitAny X.K ty us = some b ∧ ∀ Z, Stp T Z → Sta X.K Z m → Q (.bl b) Z.H := by
  cases q1 : tagOf m d with
  | none => rw [q1] at h; exact (show False from h).elim
  | some t =>
    rw [q1] at h
    cases q2 : A.get t with
    | none => rw [show (some t).bind A.get = A.get t from rfl, q2] at h; exact (show False from h).elim
    | some b =>
      rw [show (some t).bind A.get = A.get t from rfl, q2] at h
      obtain ⟨ty, k1, k2⟩ := tag_ok hA sa rd q1 q2
      exact ⟨b, ty, k1, k2, fun Z st sZ => h (.bl b) Z st sZ (.bl b)⟩
theorem pd_isi {A : Ans} {u : Value} {cv : V} (ha : PDE X a ta) (hcv : ClsV cv u) (hc : PDE X c (dC (.val cv))) (hA : AnsOk X.K A [u]) (hm : X.mg "isinstance" = none) (hg : Gl X "isinstance" := by rfl)
    (hs : starEach [a, c] X.env = (false, eval a X.env) :: starEach [c] X.env := by rfl) (hs2 : starEach [c] X.env = (false, eval c X.env) :: starEach [] X.env := by rfl) (hpl : (backTo pos (starEach [c] X.env)).any (·.1) = false := by rfl) :
    PDE X (.Call (.Name "isinstance" p) [a, c] [] pos) (dIsi A ta) := by
  refine pd_of (pe_callB call_isi hg hm (by decide +kernel) (pa_cons (mxE X a) (pa_cons (mxE X c) pa_nil hs2) hs) (by decide) (by decide) hs hpl) fun S r m σ Q sa re p => ?_
  refine ha S r m σ _ sa re (Post.bindI p fun d m1 v T st sa1 rd q => ?_)
  refine hc T r m1 σ _ sa1 (re.stp st) ?_
  intro w Z st2 sa2 rw
  cases rw
  obtain ⟨b, ty, k1, k2, k3⟩ := isi_fin hA sa2 (rd.stp st2) (Post.step st2 q)
  exact ⟨v, cv, ty, u, b, rfl, hcv, k1, kitOne_any k2, k3 Z (Stp.refl Z) sa2⟩
/-- isinstance(a, (C1, C2)) -/
theorem pd_isiT {A : Ans} {us : List Value} {cvs : List V} {cs : List Expr} {kk : Nat} (ha : PDE X a ta) (hcv : Paired ClsV cvs us) (hc : PDA X cs (fun _ m => .ok (cvs.map .val) m)) (hl : cvs.length ≤ sizeLine) (hA : AnsOk X.K A us) (hm : X.mg "isinstance" = none) (hg : Gl X "isinstance" := by rfl)
    (hs : starEach [a, .Tuple cs kk q] X.env = (false, eval a X.env) :: starEach [.Tuple cs kk q] X.env := by rfl) (hs2 : starEach [.Tuple cs kk q] X.env = (false, eval (.Tuple cs kk q) X.env) :: starEach [] X.env := by rfl) (hpl : (backTo pos (starEach [.Tuple cs kk q] X.env)).any (·.1) = false := by rfl) :
    PDE X (.Call (.Name "isinstance" p) [a, .Tuple cs kk q] [] pos) (dIsi A ta) := by
  refine pd_of (pe_callB call_isiT hg hm (by decide +kernel) (pa_cons (mxE X a) (pa_cons (pe_tup (mxA X cs)) pa_nil hs2) hs) (by decide) (by decide) hs hpl) fun S r m σ Q sa re p => ?_
  refine ha S r m σ _ sa re (Post.bindI p fun d m1 v T st sa1 rd qq => ?_)
  refine hc T r m1 σ _ sa1 (re.stp st) ?_
  intro ws Z st2 sa2 rw
  have hws : ∀ {l : List V} {ws : List V}, Reps X.K Z.i Z.F (l.map D.val) ws → ws = l := by
    intro l
    induction l with
    | nil => intro ws r; cases r; rfl
    | cons y l ih =>
      intro ws r
      cases r with
      | cons h1 h2 => cases h1; rw [ih h2]
  have e := hws rw
  subst e
  refine ⟨hl, fun n hn => ?_⟩
  have st3 := Stp.new sa2 (o := .tup ws) hn
  have sa3 := sa2.new (o := .tup ws) hn
  obtain ⟨b, ty, k1, k2, k3⟩ := isi_fin hA sa3 ((rd.stp st2).stp st3) (Post.step (st2.trans st3) qq)
  exact ⟨v, n, ws, ty, us, b, rfl, upd_same, hcv, k1, k2, k3 _ (Stp.refl _) sa3⟩
/-! ### keywords -/
/-- the places: where in (positional ++ keywords' ++ defaults') values each parameter finds its own -/
def pick (pl : List Nat) (ds : List D) : Option (List D) := match pl with
  | [] => some []
  | i :: r => match ds[i]? with
    | some d => match pick r ds with
      | some xs => some (d :: xs)
      | none => none
    | none => none
/-- a call with keywords of a def: n positional, names ks -/
structure BK (K : PySem.W.Frag) (fd : FuncData) (ps : List Str) (n : Nat) (ks : List Str) (pl : List Nat) (dds : List D) : Prop where
  ex : ∃ (ds : List Value) (dvs : List V), Vals dvs ds ∧ (∀ (i : List Addr) (F : Hp), Reps K i F dds dvs) ∧
    ∀ (s : Shared) (us ws : List Value), K.In s.heap → us.length = n → ws.length = ks.length → BindsTo s fd ⟨us, ks.zip ws⟩ (ps.zip (pl.filterMap fun i => (us ++ ws ++ ds)[i]?)) ∧ (pl.filterMap fun i => (us ++ ws ++ ds)[i]?).length = ps.length
structure FTK (P : Program) (w : World) (K : PySem.W.Frag) (mg : Str → Option Value) (base : Heap) (k : Nat) (x : Str) (n : Nat) (ks : List Str) (G : DFn) : Prop where
  ex : ∃ (f : Addr) (fd : FuncData) (ps : List Str) (pl : List Nat) (dds : List D) (G0 : DFn), mg x = some (.ref f) ∧ PySem.W.keepIn K (.ref f) = true ∧ FnD P w K mg base k f fd ps G0 ∧ BK K fd ps n ks pl dds ∧
    G = fun ds m => match pick pl (ds ++ dds) with
      | some xs => G0 xs m
      | none => .stuck
theorem pick_reps {K : PySem.W.Frag} {ι : List Addr} {F : Hp} {ds : List D} {vs : List V} (r : Reps K ι F ds vs) : ∀ {pl : List Nat} {xs : List D}, pick pl ds = some xs → Reps K ι F xs (pl.filterMap fun i => vs[i]?)
  | [], xs, h => by cases h; exact .nil
  | i :: pl, xs, h => by
    unfold pick at h
    cases q : ds[i]? with
    | none => rw [q] at h; cases h
    | some d =>
      cases q2 : pick pl ds with
      | none => rw [q, q2] at h; cases h
      | some ys =>
        rw [q, q2] at h; cases h
        obtain ⟨v, hv, rv⟩ := r.get q
        rw [List.filterMap_cons, hv]
        exact .cons rv (pick_reps r q2)
theorem vals_pick {vs : List V} {us : List Value} (r : Vals vs us) : ∀ (pl : List Nat), Vals (pl.filterMap fun i => vs[i]?) (pl.filterMap fun i => us[i]?)
  | [] => .nil
  | i :: pl => by
    rw [List.filterMap_cons, List.filterMap_cons]
    cases q : vs[i]? with
    | none =>
      rw [r.none_of q]
      exact vals_pick r pl
    | some v =>
      obtain ⟨u, hu, ru⟩ := r.get q
      rw [hu]
      exact .cons ru (vals_pick r pl)
def PDK (X : Cx) (kws : List Keyword) (t : DA) : Prop := ∀ S r m σ Q, Sta X.K S m → RelE X.K S r σ → PostL X.K S (t r m) Q (fun c d H => Fly X c d σ H) →
  ∀ (pos : Pos) (pins : List (Addr × Obj)) (s : Shared), Inv X pins σ S.H s → wpAny (model X.prog X.w) X.A (evalAll ((backToKw pos (keywordEach kws X.env)).map (·.2))) (AP X pins σ Q) X.xe s
theorem pdk_nil : PDK X [] dNil := fun S r m σ Q sa re p pos pins s I => (pk_nil (X := X)).run pos pins s σ S.H Q I (Post.ok p (Stp.refl S) sa .nil)
theorem pdk_cons {nm : Option Str} {kpos : Pos} {kws : List Keyword} (ha : PDE X a ta) (hr : PDK X kws t) : PDK X (⟨nm, a, kpos⟩ :: kws) (dCons ta t) := by
  intro S r m σ Q sa re p pos pins s I
  refine (pk_cons (mxE X a) (t := fun σ H Q => ∀ (pos : Pos) (pins : List (Addr × Obj)) (s : Shared), Inv X pins σ H s → wpAny (model X.prog X.w) X.A (evalAll ((backToKw pos (keywordEach kws X.env)).map (·.2))) (AP X pins σ Q) X.xe s) ⟨fun pos pins s σ H Q I h => h pos pins s I⟩).run pos pins s σ S.H Q I ?_
  refine ha S r m σ _ sa re (Post.bindI p fun d m1 v T st sa1 rd q => ?_)
  refine hr T r m1 σ _ sa1 (re.stp st) (Post.bindI q fun ds m2 vs U st2 sa2 rds q2 => ?_)
  exact Post.ok q2 (Stp.refl U) sa2 (.cons (rd.stp st2) rds)
def dFunK (G : DFn) (n nk : Nat) (t u : DA) : DE := fun e m => (t e m).bind fun ds m1 => (u e m1).bind fun zs m2 => if ds.length = n ∧ zs.length = nk then G (ds ++ zs) m2 else .stuck
theorem PDK.run {γ δ : Type} {R' : Wd → γ → δ → Prop} {kws : List Keyword} (ha : PDK X kws t) {S : Wd} {r : En} {m : Mu} {σ : L2.St} {f : List D → Mu → Res γ} {Q : δ → Hp → Prop} (sa : Sta X.K S m) (re : RelE X.K S r σ)
    (p : Post R' X.K S ((t r m).bind f) Q (fun c d H => Fly X c d σ H)) {pins : List (Addr × Obj)} {s : Shared} (I : Inv X pins σ S.H s) (pos : Pos) :
    wpAny (model X.prog X.w) X.A (evalAll ((backToKw pos (keywordEach kws X.env)).map (·.2))) (fun us s1 => ∃ (xs : List V) (ds : List D) (m1 : Mu) (T : Wd), Stp S T ∧ Sta X.K T m1 ∧ Reps X.K T.i T.F ds xs ∧ Vals xs us ∧ Inv X pins σ T.H s1 ∧ Post R' X.K T (f ds m1) Q (fun c d H => Fly X c d σ H)) X.xe s := by
  refine thn (ha S r m σ _ sa re (Post.bindI p (Q' := fun v H => ∃ d m1 T, H = T.H ∧ Stp S T ∧ Sta X.K T m1 ∧ Reps X.K T.i T.F d v ∧ Post R' X.K T (f d m1) Q (fun c d H => Fly X c d σ H)) fun d m1 v T st sa1 r1 q => ⟨d, m1, T, rfl, st, sa1, r1, q⟩) pos pins s I) ?_
  rintro us s1 ⟨xs, H1, I1, r1, d, m1, T, rfl, st, sa1, rd, q⟩
  exact ⟨xs, d, m1, T, st, sa1, rd, r1, I1, q⟩
theorem run_fnK {k : Nat} {n : Nat} {ks : List Str} {G0 : DFn} {f : Addr} {fd : FuncData} {ps : List Str} {pl : List Nat} {dds : List D} {pins : List (Addr × Obj)} {σ : L2.St} {S : Wd} {m : Mu} {s : Shared} {Q : VK} {us ws : List Value} {vs zs : List V} {das dzs : List D} (hf : FnD X.prog X.w X.K X.mg X.base k f fd ps G0) (hr : Room k X.A) (hb : BK X.K fd ps n ks pl dds)
    (I : Inv X pins σ S.H s) (sa : Sta X.K S m) (r : Reps X.K S.i S.F das vs) (rz : Reps X.K S.i S.F dzs zs) (rv : Vals vs us) (rw : Vals zs ws) (hn : das.length = n) (hk : dzs.length = ks.length) {xs : List D} (hp : pick pl ((das ++ dzs) ++ dds) = some xs)
    (h : PostD X.K S (G0 xs m) Q (fun c d H => Fly X c d σ H)) : wpAny (model X.prog X.w) X.A (call (.ref f) us (ks.zip ws)) (EP X pins σ Q) X.xe s := by
  obtain ⟨dsv, dvs, hd, hD, hB⟩ := hb.ex
  have l1 : us.length = n := by rw [← rv.length, ← r.len]; exact hn
  have l2 : ws.length = ks.length := by rw [← rw.length, ← rz.len]; exact hk
  obtain ⟨b1, b2⟩ := hB s us ws I.kIn l1 l2
  have r1 := pick_reps ((r.append rz).append (hD S.i S.F)) hp
  have r2 := vals_pick ((rv.append rw).append hd) pl
  have hlv : (pl.filterMap fun i => (vs ++ zs ++ dvs)[i]?).length = ps.length := by rw [r2.length]; exact b2
  refine wpAny_call (codeAny_mono (hf.run X.A X.stack s S.H ⟨us, ks.zip ws⟩ _ _ Q (fun c d H => Fly X c d σ H) hr I.env0 b1 r2 ⟨hlv, S, m, xs, rfl, sa, r1, h⟩) fun r s' hq => ?_)
  cases r with
  | error e =>
    obtain ⟨a, B, sI, pins', σ', H', cls, d, e1, I', nb, up, sky, na, os, ag, e2, fl⟩ := XE.of_call I (W := fun c d σ' H => σ' = σ ∧ Fly X c d σ H) (fun cls d H' h => ⟨rfl, h⟩) hq
    exact fl e s' ⟨a, B, sI, pins', σ', H', cls, d, e1, I', nb, up, sky, na, os, ag, rfl, rfl, e2, rfl⟩
  | ok fl =>
    cases fl with
    | ret u => exact I.after hq
    | next => exact False.elim hq
    | brk => exact False.elim hq
    | cont => exact False.elim hq
theorem pd_funK {k n : Nat} {ks : List Str} {G : DFn} {kws : List Keyword} {tk : DA} (F : FTK X.prog X.w X.K X.mg X.base k x n ks G) (hr : Room k X.A) (ha : PDA X (e :: es) t) (hkw : PDK X kws tk)
    (hks : (backToKw pos (keywordEach kws X.env)).filterMap (·.1) = ks := by rfl) (hall : (backToKw pos (keywordEach kws X.env)).all (·.1.isSome) = true := by rfl)
    (hg : Gl X x := by rfl) (hdb : (x == ("__debug__" : Str)) = false := by decide) (he : starEach (e :: es) X.env = (false, eval e X.env) :: starEach es X.env := by exact se_cons _ _ _ rfl)
    (hpl : ((backTo pos (starEach (e :: es) X.env)).any (·.1) || (backToKw pos (keywordEach kws X.env)).any (·.1.isNone)) = false := by rfl) :
    PDE X (.Call (.Name x p) (e :: es) kws pos) (dFunK G n ks.length t tk) := by
  obtain ⟨f, fd, ps, pl, dds, G0, hm, hk, hf, hb, rfl⟩ := F.ex
  intro S r m σ Q sa re q pins s I
  refine wpAny_Call_Name_kw (ld_glob I hg hm ?_ hdb)
  refine PySem.W.callWith_KW (h₀ := X.base) I.ok.mod.kin hk hall (thn (ha.run sa re q I pos) ?_) hpl he
  rintro us s1 ⟨xs, das, m1, T, st, sa1, rds, rv, I1, q1⟩
  refine thn (hkw.run sa1 (re.stp st) q1 I1 pos) ?_
  rintro ws s2 ⟨zs, dzs, m2, U, st2, sa2, rdz, rz, I2, q2⟩
  refine ⟨I2.kIn, ?_⟩
  rw [hks]
  split at q2
  · rename_i hl
    dsimp only at q2
    split at q2
    · rename_i xs' hp
      exact run_fnK hf hr hb I2 sa2 (rds.stp st2) rdz rv rz hl.1 hl.2 hp q2
    · exact q2.elim
  · exact q2.elim
theorem pd_funK0 {k : Nat} {ks : List Str} {G : DFn} {kws : List Keyword} {tk : DA} (F : FTK X.prog X.w X.K X.mg X.base k x 0 ks G) (hr : Room k X.A) (hkw : PDK X kws tk)
    (hks : (backToKw pos (keywordEach kws X.env)).filterMap (·.1) = ks := by rfl) (hall : (backToKw pos (keywordEach kws X.env)).all (·.1.isSome) = true := by rfl)
    (hg : Gl X x := by rfl) (hdb : (x == ("__debug__" : Str)) = false := by decide)
    (hpl : ((backTo pos (starEach [] X.env)).any (·.1) || (backToKw pos (keywordEach kws X.env)).any (·.1.isNone)) = false := by rfl) :
    PDE X (.Call (.Name x p) [] kws pos) (dFunK G 0 ks.length dNil tk) := by
  obtain ⟨f, fd, ps, pl, dds, G0, hm, hk, hf, hb, rfl⟩ := F.ex
  intro S r m σ Q sa re q pins s I
  refine wpAny_Call_Name_kw (ld_glob I hg hm ?_ hdb)
  refine PySem.W.callWith_KW0 (first := []) (h₀ := X.base) I.ok.mod.kin hk hall (thn (hkw.run sa re (f := fun zs m2 => if ([] : List D).length = 0 ∧ zs.length = ks.length then _ else .stuck) q I pos) ?_) hpl
  rintro ws s2 ⟨zs, dzs, m2, U, st2, sa2, rdz, rz, I2, q2⟩
  refine ⟨I2.kIn, ?_⟩
  rw [hks]
  split at q2
  · rename_i hl
    dsimp only at q2
    split at q2
    · rename_i xs' hp
      exact run_fnK (us := []) (vs := []) (das := []) hf hr hb I2 sa2 .nil rdz .nil rz rfl hl.2 hp q2
    · exact q2.elim
  · exact q2.elim
end
end DL

namespace DL
open PySem PySem.Spec PyProof.Rows L2
variable [LamTab]
section
variable {P : Program} {w : World} {K : PySem.W.Frag} {mg : Str → Option Value} {base : Heap}
theorem MT.mono {j k : Nat} {mn : Str} {C : Addr} {G : DFn} (h : MT P w K mg base j mn C G) (hk : j ≤ k) : MT P w K mg base k mn C G := by
  obtain ⟨f, fd, ps, dds, G0, h1, h2, h3, h4, h5, h6⟩ := h.ex
  exact ⟨f, fd, ps, dds, G0, h1, h2, h3, h4.mono hk, h5, h6⟩
theorem bd_of {fd : FuncData} {ps : List Str} {dvs : List V} {dds : List D} (h : ∃ ds, Vals dvs ds ∧ Binds K fd ps ds) (r : ∀ (i : List Addr) (F : Hp), Reps K i F dds dvs) : Bd K fd ps dds := by
  obtain ⟨ds, h1, h2⟩ := h
  exact ⟨ds, dvs, h2, h1, r⟩
theorem dfl_nil {dV : Value} (h : DflV K dV []) : dV = .none := by
  rcases h with ⟨_, h⟩ | ⟨h, _⟩
  · exact h
  · exact absurd rfl h
theorem pdss_stuck {X : Cx} {sts : List Stmt} : PDSs X sts dStuck := fun S r m σ N sa re p => p.elim
theorem fnD_none {x qual : Str} {params : Arguments} {body : List Stmt} {scope : Scope} {dvs : List V} {kws : List (Str × V)} {f : Addr} {fd : FuncData} {N ps : List Str} (F : FunD K x qual params body scope dvs kws f fd) (S : FnScope N ps scope) :
    FnD P w K mg base 1 f fd ps (fun _ _ => .stuck) := FnD.imp' (fnD_of (k := 0) (t := dStuck) F S fun cdv A outer s H E hr => pdss_stuck) fun ds m h => absurd rfl h
/-- without the tables of code objects -/
def noTbl (H : Hp) : Hp := fun b => match H b with
  | some (.tbl _) => none
  | o => o
/-- the law's promise -/
def spLaw (K : PySem.W.Frag) : Sp := fun vs H Q _ => ∃ (a : Addr) (ns : List Int), vs = [.ref a] ∧ SqL K H a (ns.map V.int) ∧ ns.length ≤ 63 ∧ (∀ p ∈ LamTab.tbls K, H p.1 = some (.tbl #[])) ∧ ∀ H', Q (.bl true) H'
theorem reps_ints {ι : List Addr} {F : Hp} : ∀ (ns : List Int), Reps K ι F (ns.map D.int) (ns.map V.int)
  | [] => .nil
  | n :: ns => .cons (.int n) (reps_ints ns)
theorem law_sp {k : Nat} {f : Addr} {fd : FuncData} {x : Str} {F : DFn} (h : FnD P w K mg base k f fd [x] F) (ht : ∀ ns : List Int, ns.length ≤ 63 → ∃ m, F [.lst (ns.map .int)] [] = .ok (.bl true) m) : FnOk P w K mg base (L2.CX P w) k f fd [x] (spLaw K) := by
  refine FnOk.imp h fun vs H Q E hs => ?_
  obtain ⟨a, ns, rfl, hS, hl, hT, hq⟩ := hs
  obtain ⟨m, e⟩ := ht ns hl
  have ex : Ext (noTbl H) H := fun b o e => by
    unfold noTbl at e
    split at e
    · cases e
    · exact e
  have hS' : SqL K (noTbl H) a (ns.map V.int) := by
    rcases hS with (h | ⟨o, h⟩) | h
    · exact .inl (.inl (by unfold noTbl; rw [h]))
    · exact .inl (.inr ⟨o, by unfold noTbl; rw [h]⟩)
    · exact .inr h
  refine ⟨rfl, ⟨[], noTbl H, H⟩, [], [.lst (ns.map .int)], rfl, ⟨List.nodup_nil, rfl, ex, fun a h => (nomatch h), fun a h => (nomatch h), fun n a o h => by simp at h, fun p hp => ⟨#[], hT p hp, by show noTbl H p.1 = none; unfold noTbl; rw [hT p hp], (fun z => nomatch z), True.intro, fun pos cv hc => by
      have z : codeAmong pos [] = some cv := hc
      simp [codeAmong] at z⟩⟩, .cons (.lst hS' (reps_ints ns)) .nil, ?_⟩
  rw [e]
  intro v T st sa r
  cases r
  exact hq _
theorem nofly {outer : List Env} {H : Hp} {s s' : Shared} {e : Value} (z : L2.CX P w outer H s (fun _ _ _ => False) e s') : False := by
  obtain ⟨_, _, _, _, _, _, _, _, _, _, _, _, z⟩ := z
  exact z
end
section
variable {X : Cx} {a b c : Expr} {ta tb tc : DE} {t : DA} {pos : Pos}
def dPar3 (i j l : Nat) (t : DA) : DS := fun e m => match t e m with
  | .ok [x, y, z] m1 => .nx (((e.set i (some x)).set j (some y)).set l (some z)) m1
  | .exc C fs m1 => .exc C fs e m1
  | _ => .stuck
theorem reps3 {K : PySem.W.Frag} {i : List Addr} {F : Hp} {d e f : D} {xs : List V} (r : Reps K i F [d, e, f] xs) : ∃ u v w, xs = [u, v, w] ∧ Rep K i F d u ∧ Rep K i F e v ∧ Rep K i F f w := by
  cases r with
  | cons h r => obtain ⟨v, w, rfl, h2, h3⟩ := reps2 r; exact ⟨_, v, w, rfl, h, h2, h3⟩
theorem pds_par3 {i j l : Nat} {x y z : Str} {px py pz pt : Pos} {kt k2 pt2} (ha : PDA X [a, b, c] t) (hc : X.calm = true) (hN : X.N.Nodup)
    (hw : swappedStores [.Tuple [.Name x px, .Name y py, .Name z pz] kt pt] (.Tuple [a, b, c] k2 pt2) X.env = pure (some [x, y, z]) := by rfl) (hi : X.N[i]? = some x := by rfl) (hj : X.N[j]? = some y := by rfl) (hl : X.N[l]? = some z := by rfl) (hij : i ≠ j := by decide) (hil : i ≠ l := by decide) (hjl : j ≠ l := by decide)
    (hx : X.env.scope.names.lookup x = some .local := by rfl) (hy : X.env.scope.names.lookup y = some .local := by rfl) (hz : X.env.scope.names.lookup z = some .local := by rfl)
    (hs : swapsWithSole [.Tuple [.Name x px, .Name y py, .Name z pz] kt pt] (.Tuple [a, b, c] k2 pt2) pos.line X.env = pure false := by rfl) :
    PDS X (.Assign [.Tuple [.Name x px, .Name y py, .Name z pz] kt pt] (.Tuple [a, b, c] k2 pt2) pos) (dPar3 i j l t) := by
  refine ps_of (ps_par3 hc hN hi hj hl hij hil hjl hx hy hz (mxA X _) hw hs) fun S r m σ N sa re p => ha S r m σ _ sa re ?_
  unfold dPar3 at p
  cases q : t r m with
  | stuck => rw [q] at p; exact p
  | exc C fs m1 => rw [q] at p; exact fun dd vs T st hn sa1 h1 h2 => p dd vs σ T st hn sa1 (re.stp st) h1 h2
  | ok ds m1 =>
    rw [q] at p
    intro vs T st sa1 rds
    split at p
    · rename_i d1 d2 d3 m2 heq
      cases heq
      obtain ⟨u, v, w, rfl, r1, r2, r3⟩ := reps3 rds
      exact ⟨u, v, w, rfl, p _ T st sa1 ((((re.stp st).set i r1).set j r2).set l r3)⟩
    · rename_i heq; cases heq
    · exact p.elim
theorem pdt_chain {op op' : CmpOp} {g h : D2} (ho : OD X (compareOp op) g) (ho' : OD X (compareOp op') h) (ha : PDE X a ta) (hb : PDE X b tb) (hc : PDE X c tc)
    (hm : lastMarks [op, op'] [b, c] = false := by with_unfolding_all rfl) : PDT X (.Compare a [op, op'] [b, c] pos) (dTst (dChain g h ta tb tc)) := by
  intro S r m σ Q sa re p pins s I
  have p : PostD X.K S (dChain g h ta tb tc r m) (fun v H => ∃ b, v = .bl b ∧ Q b H) (fun c d H => Fly X c d σ H) := EP.bool (pins := pins) (σ := σ) p
  refine isTrue_chain (thn (ha.run sa re p I) ?_) hm
  rintro v s1 ⟨x, d, m1, T, st, sa1, rd, r1, I1, q⟩
  refine test_link (thn (hb.run sa1 (re.stp st) q I1) ?_)
  rintro u s2 ⟨y, d', m2, U, st2, sa2, rd2, r2, I2, q2⟩
  refine thn (ho.run sa2 (rd.stp st2) rd2 r1 r2 q2 I2) ?_
  rintro w s3 ⟨z, d3, m3, Y, st3, sa3, rd3, r3, I3, q3⟩
  cases rd3 with
  | bl k =>
    cases r3
    refine wpAny_truthy_bool ?_
    cases k with
    | false =>
      obtain ⟨k', e', q'⟩ := Post.ok q3 (Stp.refl Y) sa3 (.bl false)
      cases e'
      exact ite_ff ⟨_, I3, q'⟩
    | true =>
      refine ite_tt (test_last (thn (hc.run sa3 (((re.stp st).stp st2).stp st3) q3 I3) ?_))
      rintro w' s4 ⟨z', d4, m4, Z, st4, sa4, rd4, r4, I4, q4⟩
      refine thn (ho' pins s4 σ Z m4 d' d4 y z' u w' _ sa4 ((rd2.stp st3).stp st4) rd4 I4 r2 r4 q4) ?_
      rintro c5 s5 ⟨z5, H5, I5, r5, k5, e5, q5⟩
      subst e5
      cases r5
      exact wpAny_truthy_bool ⟨H5, I5, q5⟩
  | _ => exact (show False from q3).elim
end
end DL

namespace DL
open PySem PySem.Spec PyProof.Rows L2
variable [LamTab]
section
@[simp ↓] theorem dVar_ap (i : Nat) (e : En) (m : Mu) : dVar  i e m = match e[i]? with
  | some (some d) => .ok d m
  | _ => .stuck := rfl
@[simp ↓] theorem dC_ap (d : D) (x_0 : En) (m : Mu) : dC  d x_0 m = .ok d m := rfl
@[simp ↓] theorem dBin_ap (f : D2) (a b : DE) (e : En) (m : Mu) : dBin  f a b e m = (a e m).bind fun x m1 => (b e m1).bind fun y m2 => f x y m2 := rfl
@[simp] theorem orD_ap (f g : D2) (x : D) (y : D) (m : Mu) : orD  f g x y m = match f x y m with
  | .stuck => g x y m
  | r => r := rfl
@[simp ↓] theorem dTst_ap (t : DE) (e : En) (m : Mu) : dTst  t e m = (t e m).bind fun d m => match d with
  | .bl b => .ok b m
  | _ => .stuck := rfl
@[simp ↓] theorem dTr_ap (t : DE) (e : En) (m : Mu) : dTr  t e m = (t e m).bind fun d m => match dTru m d with
  | some b => .ok b m
  | none => .stuck := rfl
@[simp ↓] theorem dNotT_ap (t : DT) (e : En) (m : Mu) : dNotT  t e m = (t e m).bind fun b m => .ok (!b) m := rfl
@[simp ↓] theorem dAndT_ap (t u : DT) (e : En) (m : Mu) : dAndT  t u e m = (t e m).bind fun b m => if b then u e m else .ok false m := rfl
@[simp ↓] theorem dOrT_ap (t u : DT) (e : En) (m : Mu) : dOrT  t u e m = (t e m).bind fun b m => if b then .ok true m else u e m := rfl
@[simp ↓] theorem dAnd_ap (t u : DE) (e : En) (m : Mu) : dAnd  t u e m = (t e m).bind fun d m => match d with
  | .bl true => u e m
  | .bl false => .ok (.bl false) m
  | _ => .stuck := rfl
@[simp ↓] theorem dOr_ap (t u : DE) (e : En) (m : Mu) : dOr  t u e m = (t e m).bind fun d m => match d with
  | .bl false => u e m
  | .bl true => .ok (.bl true) m
  | _ => .stuck := rfl
@[simp ↓] theorem dNot_ap (t : DE) (e : En) (m : Mu) : dNot  t e m = (t e m).bind fun d m => match d with
  | .bl b => .ok (.bl !b) m
  | _ => .stuck := rfl
@[simp ↓] theorem dIf_ap (t : DT) (u w : DE) (e : En) (m : Mu) : dIf  t u w e m = (t e m).bind fun b m => if b then u e m else w e m := rfl
@[simp ↓] theorem dChain_ap (g h : D2) (ta tb tc : DE) (e : En) (m : Mu) : dChain  g h ta tb tc e m = (ta e m).bind fun x m1 => (tb e m1).bind fun y m2 => (g x y m2).bind fun z m3 => match z with
  | .bl true => (tc e m3).bind fun w m4 => h y w m4
  | .bl false => .ok (.bl false) m3
  | _ => .stuck := rfl
@[simp ↓] theorem dNil_ap (x_0 : En) (m : Mu) : dNil  x_0 m = .ok [] m := rfl
@[simp ↓] theorem dCons_ap (t : DE) (u : DA) (e : En) (m : Mu) : dCons  t u e m = (t e m).bind fun d m1 => (u e m1).bind fun ds m2 => .ok (d :: ds) m2 := rfl
@[simp ↓] theorem dTup_ap (t : DA) (e : En) (m : Mu) : dTup  t e m = (t e m).bind fun ds m1 => if ds.length ≤ sizeLine then .ok (.tup ds) m1 else .stuck := rfl
@[simp ↓] theorem dLst_ap (t : DA) (e : En) (m : Mu) : dLst  t e m = (t e m).bind fun ds m1 => if ds.length ≤ sizeLine then .ok (.lst ds) m1 else .stuck := rfl
@[simp ↓] theorem dLoc_ap (t : DA) (e : En) (m : Mu) : dLoc  t e m = (t e m).bind fun ds m1 => if ds.length ≤ sizeLine then .ok (.loc m1.length) (m1 ++ [.lst ds]) else .stuck := rfl
@[simp ↓] theorem dFn_ap (N : Nat) (body : DS) (ds : List D) (m : Mu) : dFn  N body ds m = match body (env0 N ds) m with
  | .nx _ m1 => .ok .non m1
  | .rt d m1 => .ok d m1
  | .exc C fs _ m1 => .exc C fs m1
  | _ => .stuck := rfl
@[simp ↓] theorem dFld_ap (rows : List (Kl × Nat)) (t : DE) (e : En) (m : Mu) : dFld  rows t e m = (t e m).bind fun d m1 => match insOf m1 d with
  | some (C, ns, ds) => match fldAt rows C ns ds with
    | some x => .ok x m1
    | none => .stuck
  | none => .stuck := rfl
@[simp] theorem padF_ap (n : Nat) (dds : List D) (G : DFn) (ds : List D) (m : Mu) : padF  n dds G ds m = if (ds ++ dds).length = n then G (ds ++ dds) m else .stuck := rfl
@[simp ↓] theorem dFun_ap (G : DFn) (t : DA) (e : En) (m : Mu) : dFun  G t e m = (t e m).bind G := rfl
@[simp ↓] theorem dMeth_ap (rows : List (Kl × DFn)) (to : DE) (t : DA) (e : En) (m : Mu) : dMeth  rows to t e m = (to e m).bind fun o m1 => match insOf m1 o with
  | some (C, ns, _) => match methAt rows C ns with
    | some G => (t e m1).bind fun ds m2 => G (o :: ds) m2
    | none => .stuck
  | none => .stuck := rfl
@[simp ↓] theorem dProp_ap (rows : List (Kl × DFn)) (to : DE) (e : En) (m : Mu) : dProp  rows to e m = (to e m).bind fun o m1 => match insOf m1 o with
  | some (C, ns, _) => match methAt rows C ns with
    | some G => noExc (G [o] m1)
    | none => .stuck
  | none => .stuck := rfl
@[simp ↓] theorem dOwn2_ap (C : Addr) (G : DFn) (x : D) (y : D) (m : Mu) : dOwn2  C G x y m = match insOf m x, insOf m y with
  | some (C1, _, _), some (C2, _, _) => if C1 = C ∧ C2 = C then G [x, y] m else .stuck
  | _, _ => .stuck := rfl
@[simp ↓] theorem dNeg_ap (C : Addr) (G : DFn) (t : DE) (e : En) (m : Mu) : dNeg  C G t e m = (t e m).bind fun x m1 => match x with
  | .int i => .ok (.int (-i)) m1
  | _ => match insOf m1 x with
    | some (C1, _, _) => if C1 = C then G [x] m1 else .stuck
    | none => .stuck := rfl
@[simp ↓] theorem dNegI_ap (t : DE) (e : En) (m : Mu) : dNegI  t e m = (t e m).bind fun x m1 => match x with
  | .int i => .ok (.int (-i)) m1
  | _ => .stuck := rfl
@[simp] theorem gI2_ap (C : Int → Int → Bool) (k : Int → Int → D) (x : D) (y : D) (m : Mu) : gI2  C k x y m = match x with
  | .int i => match y with
    | .int j => if C i j then .ok (k i j) m else .stuck
    | _ => .stuck
  | _ => .stuck := rfl
@[simp] theorem gI0_ap (k : Int → Int → D) (x : D) (y : D) (m : Mu) : gI0  k x y m = match x with
  | .int i => match y with
    | .int j => .ok (k i j) m
    | _ => .stuck
  | _ => .stuck := rfl
@[simp] theorem gAddS_ap (x : D) (y : D) (m : Mu) : gAddS  x y m = match x with
  | .str a => match y with
    | .str b => if a.length + b.length ≤ sizeLine then .ok (.str (a ++ b)) m else .stuck
    | _ => .stuck
  | _ => .stuck := rfl
@[simp] theorem gIsN_ap (x : D) (y : D) (m : Mu) : gIsN  x y m = match y with
  | .non => match x with
    | .non => .ok (.bl true) m
    | .val _ => .stuck
    | _ => .ok (.bl false) m
  | _ => .stuck := rfl
@[simp] theorem gNotN_ap (x : D) (y : D) (m : Mu) : gNotN  x y m = match y with
  | .non => match x with
    | .non => .ok (.bl false) m
    | .val _ => .stuck
    | _ => .ok (.bl true) m
  | _ => .stuck := rfl
@[simp] theorem gEqD_ap (neg : Bool) (x : D) (y : D) (m : Mu) : gEqD  neg x y m = match pyOf m x, pyOf m y with
  | some d, some e => if SeqAt.shaped d && SeqAt.shaped e then .ok (.bl (neg ^^ PyData.eqv d e)) m else .stuck
  | _, _ => .stuck := rfl
@[simp] theorem gEqS_ap (neg : Bool) (x : D) (y : D) (m : Mu) : gEqS  neg x y m = match scEq x y with
  | some b => .ok (.bl (neg ^^ b)) m
  | none => .stuck := rfl
@[simp] theorem gInQ_ap (neg : Bool) (x : D) (y : D) (m : Mu) : gInQ  neg x y m = match toV x, (seqA m y).bind toVs with
  | some v, some vs => .ok (.bl (neg ^^ inV v vs)) m
  | _, _ => .stuck := rfl
@[simp] theorem gInS_ap (neg : Bool) (x : D) (y : D) (m : Mu) : gInS  neg x y m = match x with
  | .str a => match y with
    | .str b => .ok (.bl (neg ^^ occurs a b)) m
    | _ => .stuck
  | _ => .stuck := rfl
@[simp] theorem gAbs_ap (ds : List D) (m : Mu) : gAbs  ds m = match ds with
  | [.int i] => .ok (.int (if i < 0 then -i else i)) m
  | _ => .stuck := rfl
@[simp] theorem gInt_ap (ds : List D) (m : Mu) : gInt  ds m = match ds with
  | [.int i] => .ok (.int i) m
  | [.bl b] => .ok (.int (if b then 1 else 0)) m
  | _ => .stuck := rfl
@[simp] theorem gBool_ap (ds : List D) (m : Mu) : gBool  ds m = match ds with
  | [.int i] => .ok (.bl (i != 0)) m
  | [.bl b] => .ok (.bl b) m
  | _ => .stuck := rfl
@[simp] theorem gMin2_ap (ds : List D) (m : Mu) : gMin2  ds m = match ds with
  | [.int i, .int j] => .ok (.int (if j < i then j else i)) m
  | _ => .stuck := rfl
@[simp] theorem gMax2_ap (ds : List D) (m : Mu) : gMax2  ds m = match ds with
  | [.int i, .int j] => .ok (.int (if j > i then j else i)) m
  | _ => .stuck := rfl
@[simp] theorem gStrI_ap (ds : List D) (m : Mu) : gStrI  ds m = match ds with
  | [.int i] => if i.natAbs.log2 < 1920 then .ok (.str (toString i)) m else .stuck
  | _ => .stuck := rfl
@[simp] theorem gLen_ap (ds : List D) (m : Mu) : gLen  ds m = match ds with
  | [.str x] => if x.length ≤ sizeLine then .ok (.int x.length) m else .stuck
  | [d] => match seqA m d with
    | some ds => .ok (.int ds.length) m
    | none => .stuck
  | _ => .stuck := rfl
@[simp] theorem gList_ap (ds : List D) (m : Mu) : gList  ds m = match ds with
  | [d] => match seqA m d with
    | some es => .ok (.lst es) m
    | none => .stuck
  | _ => .stuck := rfl
@[simp] theorem gListM_ap (ds : List D) (m : Mu) : gListM  ds m = match ds with
  | [d] => match seqA m d with
    | some es => .ok (.loc m.length) (m ++ [.lst es])
    | none => .stuck
  | _ => .stuck := rfl
@[simp] theorem gAll_ap (ds : List D) (m : Mu) : gAll  ds m = match ds with
  | [d] => match (seqL m d).bind toBs with
    | some bs => .ok (.bl (bs.all _root_.id)) m
    | none => .stuck
  | _ => .stuck := rfl
@[simp] theorem gAny_ap (ds : List D) (m : Mu) : gAny  ds m = match ds with
  | [d] => match (seqL m d).bind toBs with
    | some bs => .ok (.bl (bs.any _root_.id)) m
    | none => .stuck
  | _ => .stuck := rfl
@[simp ↓] theorem dNoPart_ap (x_0 : En) (m : Mu) : dNoPart  x_0 m = .ok none m := rfl
@[simp ↓] theorem dPart_ap (t : DE) (e : En) (m : Mu) : dPart  t e m = (t e m).bind fun d m1 => match d with
  | .int i => .ok (some i) m1
  | _ => .stuck := rfl
@[simp ↓] theorem dSl_ap (t : DE) (lo hi : DO) (e : En) (m : Mu) : dSl  t lo hi e m = (t e m).bind fun d m1 => (lo e m1).bind fun l m2 => (hi e m2).bind fun h m3 => match seqL m3 d with
  | some ds => .ok (.lst (cutD ds l h)) m3
  | none => .stuck := rfl
@[simp ↓] theorem dSeq_ap (t u : DS) (e : En) (m : Mu) : dSeq  t u e m = match t e m with
  | .nx e1 m1 => u e1 m1
  | r => r := rfl
@[simp ↓] theorem dSkip_ap (e : En) (m : Mu) : dSkip  e m = .nx e m := rfl
@[simp ↓] theorem dRet_ap (t : DE) (e : En) (m : Mu) : dRet  t e m = rsOf e (t e m) fun d m1 => .rt d m1 := rfl
@[simp ↓] theorem dStuck_ap (x_0 : En) (x_1 : Mu) : dStuck  x_0 x_1 = .stuck := rfl
@[simp ↓] theorem dDrop_ap (t : DE) (e : En) (m : Mu) : dDrop  t e m = rsOf e (t e m) fun _ m1 => .nx e m1 := rfl
@[simp ↓] theorem dSet_ap (i : Nat) (t : DE) (e : En) (m : Mu) : dSet  i t e m = rsOf e (t e m) fun d m1 => .nx (e.set i (some d)) m1 := rfl
@[simp ↓] theorem dIfS_ap (t : DT) (u w : DS) (e : En) (m : Mu) : dIfS  t u w e m = rsOfB e (t e m) fun b m1 => if b then u e m1 else w e m1 := rfl
@[simp ↓] theorem dName_ap (i : Nat) (d : D) (e : En) : dName  i d e = some (e.set i (some d)) := rfl
@[simp ↓] theorem dGnil_ap (ds : List D) (e : En) : dGnil  ds e = match ds with
  | [] => some e
  | _ => none := rfl
@[simp ↓] theorem dGcons_ap (g : DG) (h : List D → En → Option En) (ds : List D) (e : En) : dGcons  g h ds e = match ds with
  | d :: r => (g d e).bind fun e1 => h r e1
  | [] => none := rfl
@[simp ↓] theorem dTupG_ap (n : Nat) (g : List D → En → Option En) (d : D) (e : En) : dTupG  n g d e = match d with
  | .tup ds => if ds.length = n then g ds e else none
  | _ => none := rfl
@[simp ↓] theorem dAsg_ap (t : DE) (g : DG) (e : En) (m : Mu) : dAsg  t g e m = rsOf e (t e m) fun d m1 => match g d e with
  | some e1 => .nx e1 m1
  | none => .stuck := rfl
@[simp ↓] theorem dPar_ap (i j : Nat) (t : DA) (e : En) (m : Mu) : dPar  i j t e m = match t e m with
  | .ok [x, y] m1 => .nx ((e.set i (some x)).set j (some y)) m1
  | .exc C fs m1 => .exc C fs e m1
  | _ => .stuck := rfl
@[simp ↓] theorem dItL_ap (t : DE) (e : En) (m : Mu) : dItL  t e m = (t e m).bind fun d m1 => match d with
  | .lst ds => .ok ds m1
  | _ => .stuck := rfl
@[simp ↓] theorem dItT_ap (t : DE) (e : En) (m : Mu) : dItT  t e m = (t e m).bind fun d m1 => match d with
  | .tup ds => .ok ds m1
  | _ => .stuck := rfl
@[simp ↓] theorem dItR1_ap (t : DA) (e : En) (m : Mu) : dItR1  t e m = (t e m).bind fun ds m1 => match ds with
  | [.int j] => if -(2 ^ 62) ≤ j ∧ j < 2 ^ 62 then .ok (rngD 0 j.toNat) m1 else .stuck
  | _ => .stuck := rfl
@[simp ↓] theorem dItR2_ap (t : DA) (e : En) (m : Mu) : dItR2  t e m = (t e m).bind fun ds m1 => match ds with
  | [.int i, .int j] => if -(2 ^ 62) ≤ i ∧ i < 2 ^ 62 ∧ -(2 ^ 62) ≤ j ∧ j < 2 ^ 62 then .ok (rngD i (j - i).toNat) m1 else .stuck
  | _ => .stuck := rfl
@[simp ↓] theorem dItE_ap (t : DA) (e : En) (m : Mu) : dItE  t e m = (t e m).bind fun ds m1 => match ds with
  | [.lst es] => .ok ((List.range es.length).zipWith (fun k d => .tup [.int (k : Nat), d]) es) m1
  | _ => .stuck := rfl
@[simp ↓] theorem dItZ_ap (t : DA) (e : En) (m : Mu) : dItZ  t e m = (t e m).bind fun ds m1 => match ds with
  | [.lst xs, .lst ys] => .ok (xs.zipWith (fun x y => .tup [x, y]) ys) m1
  | [.tup xs, .tup ys] => .ok (xs.zipWith (fun x y => .tup [x, y]) ys) m1
  | _ => .stuck := rfl
@[simp ↓] theorem dFor_ap (t : DA) (g : DG) (b : DS) (e : En) (m : Mu) : dFor  t g b e m = match t e m with
  | .ok ds m1 => dLoop g b ds e m1
  | .exc C fs m1 => .exc C fs e m1
  | .stuck => .stuck := rfl
@[simp ↓] theorem dComp_ap (t : DA) (g : DG) (c : DT) (b : DE) (own : List Nat) (e : En) (m : Mu) : dComp  t g c b own e m = (t e m).bind fun ds m1 => (dCompL g c b (wipeE e own) ds m1 []).bind fun xs m2 => .ok (.lst xs) m2 := rfl
@[simp ↓] theorem dYes_ap (x_0 : En) (m : Mu) : dYes  x_0 m = .ok true m := rfl
@[simp ↓] theorem dPutI_ap (tv to ti : DE) (e : En) (m : Mu) : dPutI  tv to ti e m = rsOf e (tv e m) fun v m1 => rsOf e (to e m1) fun o m2 => rsOf e (ti e m2) fun i m3 => match o, i with
  | .loc n, .int k => match m3[n]? with
    | some (.lst ds) => match ixN ds.length k with
      | some j => .nx e (m3.set n (.lst (ds.set j v)))
      | none => .stuck
    | _ => .stuck
  | _, _ => .stuck := rfl
@[simp ↓] theorem dPutF_ap (Cs : List Addr) (f : Str) (tv to : DE) (e : En) (m : Mu) : dPutF  Cs f tv to e m = rsOf e (tv e m) fun v m1 => rsOf e (to e m1) fun o m2 => match o with
  | .loc n => match m2[n]? with
    | some (.ins C fs) => if C ∈ Cs ∧ fs.length < 1000 then .nx e (m2.set n (.ins C (putD f v fs))) else .stuck
    | _ => .stuck
  | _ => .stuck := rfl
@[simp ↓] theorem dIsi_ap (A : Ans) (ta : DE) (e : En) (m : Mu) : dIsi  A ta e m = (ta e m).bind fun d m1 => match (tagOf m1 d).bind A.get with
  | some b => .ok (.bl b) m1
  | none => .stuck := rfl
@[simp ↓] theorem dFunK_ap (G : DFn) (n nk : Nat) (t u : DA) (e : En) (m : Mu) : dFunK  G n nk t u e m = (t e m).bind fun ds m1 => (u e m1).bind fun zs m2 => if ds.length = n ∧ zs.length = nk then G (ds ++ zs) m2 else .stuck := rfl
@[simp ↓] theorem dPar3_ap (i j l : Nat) (t : DA) (e : En) (m : Mu) : dPar3  i j l t e m = match t e m with
  | .ok [x, y, z] m1 => .nx (((e.set i (some x)).set j (some y)).set l (some z)) m1
  | .exc C fs m1 => .exc C fs e m1
  | _ => .stuck := rfl
@[simp ↓] theorem bind_pre {α β : Type} (r : Res α) (f : α → Mu → Res β) : r.bind f = match r with
  | .stuck => .stuck
  | .ok a m => f a m
  | .exc C fs m => .exc C fs m := rfl
@[simp ↓] theorem rsOf_pre (e : En) (r : Res D) (k : D → Mu → RS) : rsOf e r k = match r with
  | .stuck => .stuck
  | .ok d m => k d m
  | .exc C fs m => .exc C fs e m := rfl
@[simp ↓] theorem rsOfB_pre (e : En) (r : Res Bool) (k : Bool → Mu → RS) : rsOfB e r k = match r with
  | .stuck => .stuck
  | .ok d m => k d m
  | .exc C fs m => .exc C fs e m := rfl
@[simp] theorem gIx_lst (m : Mu) (ds : List D) (i : Int) : gIx (.lst ds) (.int i) m = match atI ds i with
  | some d => .ok d m
  | none => .stuck := rfl
@[simp] theorem gIx_tup (m : Mu) (ds : List D) (i : Int) : gIx (.tup ds) (.int i) m = match atI ds i with
  | some d => .ok d m
  | none => .stuck := rfl
@[simp] theorem gEq_int (m : Mu) (i j : Int) : gEq (.int i) (.int j) m = .ok (.bl (decide (i = j))) m := by simp [gEq, scEq]
@[simp] theorem gNe_int (m : Mu) (i j : Int) : gNe (.int i) (.int j) m = .ok (.bl (!decide (i = j))) m := by simp [gNe, scEq]
@[simp] theorem gEq_bl (m : Mu) (i j : Bool) : gEq (.bl i) (.bl j) m = .ok (.bl (i == j)) m := by simp [gEq, scEq]
@[simp] theorem gNe_bl (m : Mu) (i j : Bool) : gNe (.bl i) (.bl j) m = .ok (.bl (!(i == j))) m := by simp [gNe, scEq]
@[simp] theorem gEq_str (m : Mu) (i j : Str) : gEq (.str i) (.str j) m = .ok (.bl (decide (i = j))) m := by simp [gEq, scEq]
@[simp] theorem gNe_str (m : Mu) (i j : Str) : gNe (.str i) (.str j) m = .ok (.bl (!decide (i = j))) m := by simp [gNe, scEq]
@[simp] theorem powOk_def (i j : Int) : powOk i j = decide (0 ≤ j ∧ j ≤ 1000000 ∧ i.natAbs < 2 ^ 64) := rfl
@[simp] theorem ixN_lit (n : Nat) (i : Nat) : ixN n (no_index (@OfNat.ofNat Int i _)) = if i < n then some i else none := by
  have e : (@OfNat.ofNat Int i _) = (i : Int) := rfl
  unfold ixN
  rw [e, if_pos (by omega)]
  by_cases h : i < n
  · rw [if_pos (by omega), if_pos h, Int.toNat_natCast]
  · rw [if_neg (by omega), if_neg h]
@[simp] theorem rsOf_ok (e : En) (d : D) (m : Mu) (k : D → Mu → RS) : rsOf e (.ok d m) k = k d m := rfl
@[simp] theorem rsOf_exc (e : En) (C : Addr) (fs : List (Str × D)) (m : Mu) (k : D → Mu → RS) : rsOf e (.exc C fs m) k = .exc C fs e m := rfl
@[simp] theorem rsOfB_ok (e : En) (d : Bool) (m : Mu) (k : Bool → Mu → RS) : rsOfB e (.ok d m) k = k d m := rfl
@[simp] theorem rsOfB_exc (e : En) (C : Addr) (fs : List (Str × D)) (m : Mu) (k : Bool → Mu → RS) : rsOfB e (.exc C fs m) k = .exc C fs e m := rfl
@[simp] theorem seqL_lst (m : Mu) (ds : List D) : seqL m (.lst ds) = some ds := rfl
@[simp] theorem seqA_lst (m : Mu) (ds : List D) : seqA m (.lst ds) = some ds := rfl
@[simp] theorem seqA_tup (m : Mu) (ds : List D) : seqA m (.tup ds) = some ds := rfl
@[simp] theorem seqA_loc (m : Mu) (n : Nat) : seqA m (.loc n) = match m[n]? with
  | some (.lst ds) => some ds
  | _ => none := by
  simp only [seqA, seqL]
  cases m[n]? with
  | none => rfl
  | some o => cases o <;> rfl
@[simp] theorem gIx_loc (m : Mu) (n : Nat) (i : Int) : gIx (.loc n) (.int i) m = match m[n]? with
  | some (.lst ds) => (match atI ds i with
    | some d => .ok d m
    | none => .stuck)
  | _ => .stuck := by
  have h : gIx (.loc n) (.int i) m = match seqA m (.loc n) with
    | some ds => (match atI ds i with
      | some d => .ok d m
      | none => .stuck)
    | none => .stuck := rfl
  rw [h, seqA_loc]
  cases m[n]? with
  | none => rfl
  | some o => cases o <;> rfl
@[simp] theorem insOf_obj (m : Mu) (c : Kl) (ds : List D) : insOf m (.obj c ds) = some (c.a, c.ns, ds) := rfl
@[simp] theorem insOf_loc (m : Mu) (n : Nat) : insOf m (.loc n) = match m[n]? with
  | some (.ins C fs) => some (C, fs.map (·.1), fs.map (·.2))
  | _ => none := rfl
@[simp] theorem fldAt_nil (C : Addr) (ns : List Str) (ds : List D) : fldAt [] C ns ds = none := rfl
@[simp] theorem fldAt_cons (c : Kl) (i : Nat) (rest : List (Kl × Nat)) (C : Addr) (ns : List Str) (ds : List D) : fldAt ((c, i) :: rest) C ns ds = if C = c.a ∧ ns = c.ns then ds[i]? else fldAt rest C ns ds := rfl
@[simp] theorem methAt_nil (C : Addr) (ns : List Str) : methAt [] C ns = none := rfl
@[simp] theorem methAt_cons (c : Kl) (G : DFn) (rest : List (Kl × DFn)) (C : Addr) (ns : List Str) : methAt ((c, G) :: rest) C ns = if C = c.a ∧ ns = c.ns then some G else methAt rest C ns := rfl
@[simp] theorem noExc_ok (d : D) (m : Mu) : noExc (.ok d m) = .ok d m := rfl
@[simp] theorem dLoop_nil (g : DG) (b : DS) (e : En) (m : Mu) : dLoop g b [] e m = .nx e m := rfl
@[simp] theorem dCompL_nil (g : DG) (c : DT) (b : DE) (e : En) (m : Mu) (acc : List D) : dCompL g c b e [] m acc = .ok acc m := rfl
@[simp] theorem wipeE_nil (e : En) : wipeE e [] = e := rfl
@[simp] theorem wipeE_cons (e : En) (v : Nat) (vs : List Nat) : wipeE e (v :: vs) = (wipeE e vs).set v none := rfl
@[simp] theorem atI_nat {α : Type} (xs : List α) (i : Nat) : atI xs (i : Int) = xs[i]? := by
  unfold atI ixN
  rw [if_pos (by omega)]
  by_cases h : i < xs.length
  · rw [if_pos (by omega)]; simp
  · rw [if_neg (by omega)]; simp; omega
@[simp] theorem atI_lit {α : Type} (xs : List α) (i : Nat) : atI xs (no_index (@OfNat.ofNat Int i _)) = xs[i]? := atI_nat xs i

end
end DL

namespace DL
open PySem PySem.Spec PyProof.Rows L2
variable [LamTab]
theorem dCompL_map {g : DG} {c : DT} {b : DE} {e : En} {m : Mu} (f : D → D) : ∀ (ds acc : List D), (∀ d ∈ ds, ∃ e1, g d e = some e1 ∧ c e1 m = .ok true m ∧ b e1 m = .ok (f d) m) → acc.length + ds.length ≤ sizeLine → dCompL g c b e ds m acc = .ok (acc ++ ds.map f) m
  | [], acc, _, _ => by simp
  | d :: ds, acc, h, hl => by
    obtain ⟨e1, h1, h2, h3⟩ := h d (by simp)
    have ih := dCompL_map f ds (acc ++ [f d]) (fun x hx => h x (by simp [hx])) (by simp at hl ⊢; omega)
    unfold dCompL
    rw [h1]
    simp only [h2, h3]
    rw [if_pos (by simp at hl; omega), ih]
    simp
theorem dCompL_filter {g : DG} {c : DT} {b : DE} {e : En} {m : Mu} (p : D → Bool) (f : D → D) : ∀ (ds acc : List D), (∀ d ∈ ds, ∃ e1, g d e = some e1 ∧ c e1 m = .ok (p d) m ∧ (p d = true → b e1 m = .ok (f d) m)) → acc.length + ds.length ≤ sizeLine → dCompL g c b e ds m acc = .ok (acc ++ (ds.filter p).map f) m
  | [], acc, _, _ => by simp
  | d :: ds, acc, h, hl => by
    obtain ⟨e1, h1, h2, h3⟩ := h d (by simp)
    unfold dCompL
    rw [h1]
    simp only [h2]
    cases hp : p d with
    | true =>
      have ih := dCompL_filter p f ds (acc ++ [f d]) (fun x hx => h x (by simp [hx])) (by simp at hl ⊢; omega)
      simp only [h3 hp]
      rw [if_pos (by simp at hl; omega), ih]
      simp [hp]
    | false =>
      have ih := dCompL_filter p f ds acc (fun x hx => h x (by simp [hx])) (by simp at hl ⊢; omega)
      simp only []
      rw [ih]
      simp [hp]
/-- a loop keeps I, each pass goes on -/
theorem dLoop_inv {g : DG} {b : DS} (I : En → Mu → Prop) : ∀ (ds : List D) (e : En) (m : Mu), (∀ d ∈ ds, ∀ e m, I e m → ∃ e1 e2 m2, g d e = some e1 ∧ b e1 m = .nx e2 m2 ∧ I e2 m2) → I e m → ∃ e2 m2, dLoop g b ds e m = .nx e2 m2 ∧ I e2 m2
  | [], e, m, _, h => ⟨e, m, rfl, h⟩
  | d :: ds, e, m, hs, h => by
    obtain ⟨e1, e2, m2, h1, h2, h3⟩ := hs d (by simp) e m h
    obtain ⟨e3, m3, h4, h5⟩ := dLoop_inv I ds e2 m2 (fun x hx => hs x (by simp [hx])) h3
    refine ⟨e3, m3, ?_, h5⟩
    unfold dLoop
    rw [h1]
    simp only [h2]
    exact h4
/-- the same, I knows what was walked -/
theorem dLoop_inv2 {g : DG} {b : DS} (I : List D → En → Mu → Prop) : ∀ (ds pre : List D) (e : En) (m : Mu), (∀ pre d post, pre ++ d :: post = pre ++ d :: post → ∀ e m, I pre e m → d ∈ ds → ∃ e1 e2 m2, g d e = some e1 ∧ b e1 m = .nx e2 m2 ∧ I (pre ++ [d]) e2 m2) → I pre e m → ∃ e2 m2, dLoop g b ds e m = .nx e2 m2 ∧ I (pre ++ ds) e2 m2
  | [], pre, e, m, _, h => ⟨e, m, rfl, by simpa using h⟩
  | d :: ds, pre, e, m, hs, h => by
    obtain ⟨e1, e2, m2, h1, h2, h3⟩ := hs pre d ds rfl e m h (by simp)
    obtain ⟨e3, m3, h4, h5⟩ := dLoop_inv2 I ds (pre ++ [d]) e2 m2 (fun p x q hx e m hi hm => hs p x q hx e m hi (by simp [hm])) h3
    refine ⟨e3, m3, ?_, by simpa using h5⟩
    unfold dLoop
    rw [h1]
    simp only [h2]
    exact h4
/-- plain data of bounded depth: what _law_like may meet -/
def plainD : Nat → D → Prop
  | 0, _ => False
  | _ + 1, .non => True
  | _ + 1, .bl _ => True
  | _ + 1, .int _ => True
  | _ + 1, .str _ => True
  | n + 1, .tup ds => ds.length ≤ sizeLine ∧ ∀ d ∈ ds, plainD n d
  | n + 1, .lst ds => ds.length ≤ sizeLine ∧ ∀ d ∈ ds, plainD n d
  | _ + 1, _ => False
theorem toBs_trues : ∀ n : Nat, toBs (List.replicate n (.bl true)) = some (List.replicate n true)
  | 0 => rfl
  | n + 1 => by simp [List.replicate_succ, toBs, toBs_trues n]
theorem toBs_map (f : D → Bool) : ∀ ds : List D, toBs (ds.map fun d => .bl (f d)) = some (ds.map f)
  | [] => rfl
  | d :: ds => by simp [toBs, toBs_map f ds]
end DL

namespace DL
open PySem PySem.Spec PyProof.Rows L2
variable [LamTab]
section
variable {X : Cx} {a b c e o : Expr} {es : List Expr} {ta tb tc : DE} {t : DA} {pos : Pos} {k : Nat}
/-! ### a list and a list -/
theorem op_catS : OpR X (binaryOp .Add) (fun x y H Q => ∃ l b xs zs, x = .ref l ∧ y = .ref b ∧ SqL X.K H l xs ∧ SqL X.K H b zs ∧ xs.length + zs.length ≤ sizeLine ∧ ∀ p, H p = none → Q (.ref p) (upd H p (.lst (xs ++ zs)))) := by
  intro pins s σ H x y v u Q I rx ry h
  obtain ⟨l, b, xs, zs, rfl, rfl, hH, hB, hz, q⟩ := h
  cases rx
  cases ry
  obtain ⟨its, r1, ⟨⟨cls, dd, data, sl⟩, n, e1, hc1, hd1, hs1⟩, _⟩ := I.list hH
  obtain ⟨its2, r2, ⟨⟨cls2, dd2, data2, sl2⟩, n2, e2, hc2, hd2, hs2⟩, _⟩ := I.list hB
  simp only at hc1 hs1 hc2 hs2
  subst hc1 hs1 hc2 hs2
  have l1 := r1.length
  have l2 := r2.length
  have ea : its.toArray ++ its2.toArray = (its ++ its2).toArray := by simp
  refine concat_meets ⟨_, e1, rfl⟩ ⟨_, e2, rfl⟩ noFill_list_add seq_list_add PySem.F.slot_list_add PySem.F.entry_list_add (PySem.F.args_list_add_2 _ _) (list_addW l b its.toArray its2.toArray n n2 dd dd2 sl sl2 (by simp; omega)) ⟨e1, e2, ?_⟩
  rw [ea]
  exact ⟨.ref _, _, I.lnew (t' := s.toks) (r1.append r2) (by rw [List.length_append]; omega), rfl, q _ I.fresh⟩
def gCat : D2 := fun x y m => match seqL m x, seqL m y with
  | some xs, some ys => if xs.length + ys.length ≤ sizeLine then .ok (.lst (xs ++ ys)) m else .stuck
  | _, _ => .stuck
theorem od_cat : OD X (binaryOp .Add) gCat := by
  refine od_of op_catS fun S m x y vx vy Q W sa rx ry p => ?_
  unfold gCat at p
  split at p
  · rename_i xs ys e1 e2
    split at p
    · rename_i hl
      obtain ⟨l, us, rfl, h1, r1⟩ := seqL_ok sa rx e1
      obtain ⟨l2, ws, rfl, h2, r2⟩ := seqL_ok sa ry e2
      refine ⟨l, l2, us, ws, rfl, rfl, h1, h2, by rw [← r1.len, ← r2.len]; exact hl, fun p' hp => ?_⟩
      have st1 := Stp.new sa (o := .lst (us ++ ws)) hp
      exact p (.ref p') (S.new p' (.lst (us ++ ws))) st1 (sa.new hp) (.lst (.inl (.inl upd_same)) ((r1.append r2).stp st1))
    · exact p.elim
  · exact p.elim
/-- the same into the store -/
def gCatM : D2 := fun x y m => match seqL m x, seqL m y with
  | some xs, some ys => if xs.length + ys.length ≤ sizeLine then .ok (.loc m.length) (m ++ [.lst (xs ++ ys)]) else .stuck
  | _, _ => .stuck
theorem od_catM : OD X (binaryOp .Add) gCatM := by
  refine od_of op_catS fun S m x y vx vy Q W sa rx ry p => ?_
  unfold gCatM at p
  split at p
  · rename_i xs ys e1 e2
    split at p
    · rename_i hl
      obtain ⟨l, us, rfl, h1, r1⟩ := seqL_ok sa rx e1
      obtain ⟨l2, ws, rfl, h2, r2⟩ := seqL_ok sa ry e2
      refine ⟨l, l2, us, ws, rfl, rfl, h1, h2, by rw [← r1.len, ← r2.len]; exact hl, fun p' hp => ?_⟩
      have st1 := Stp.tok sa (o := .lst (us ++ ws)) hp
      refine p (.ref p') (S.tok p' (.lst (us ++ ws))) st1 (sa.tok hp (q := .lst (xs ++ ys)) ⟨us ++ ws, upd_same, (r1.append r2).stp st1⟩) (.loc ?_)
      show (S.i ++ [p'])[m.length]? = some p'
      rw [← sa.len, List.getElem?_append_right (Nat.le_refl _), Nat.sub_self]
      rfl
    · exact p.elim
  · exact p.elim
/-! ### truth of own objects -/
abbrev MRow (P : Program) (w : World) (K : PySem.W.Frag) (mg : Str → Option Value) (base : Heap) (k : Nat) (mn : Str) : Kl → DFn → Prop := fun c G => MT P w K mg base k mn c.a G
def dTrO (rows : List (Kl × DFn)) (t : DE) : DT := fun e m => (t e m).bind fun d m => match dTru m d with
  | some b => .ok b m
  | none => match insOf m d with
    | some (C, ns, _) => match methAt rows C ns with
      | some G => (G [d] m).bind fun r m => match r with
        | .bl b => .ok b m
        | _ => .stuck
      | none => .stuck
    | none => .stuck
theorem boolBack {pins : List (Addr × Obj)} {σ : L2.St} {Q : Bool → Shared → Prop} {v : Value} {s : Shared} (h : EP X pins σ (fun v H => ∃ b, v = .bl b ∧ ∀ s, Inv X pins σ H s → Q b s) v s) : PySem.W.BoolBack Q v s := by
  obtain ⟨y, H, I, r, b, rfl, q⟩ := h
  cases r
  exact q s I
theorem pdt_truthO {rows : List (Kl × DFn)} (ha : PDE X a ta) (hrows : ∀ r ∈ rows, MRow X.prog X.w X.K X.mg X.base k "__bool__" r.1 r.2) (hr : Room k X.A) (he : ∀ whole, isTrue a X.env whole = (do let v ← whole; standAt a.pos; holding [v] (truthy v)) := by intro _; rfl) : PDT X a (dTrO rows ta) := by
  intro S r m σ Q sa re p pins s I
  refine isTrue_plain (thn (ha.run sa re p I) ?_) (he _)
  rintro u s1 ⟨x, d, m1, T, st, sa1, rd, rx, I1, q⟩
  split at q
  · rename_i b e
    exact tru_ok pins s1 σ T.H x u Q I1 rx ⟨b, dTru_ok sa1 rd e, Post.ok q (Stp.refl T) sa1 rfl⟩
  · split at q
    · rename_i C ns ds ei
      split at q
      · rename_i G eG
        obtain ⟨c, ok, rfl, rfl⟩ := methAt_ok (P := MRow X.prog X.w X.K X.mg X.base k "__bool__") hrows eG
        obtain ⟨a, dx, vs, rfl, h1, h2, h3⟩ := insOf_ok sa1 rd ei
        obtain ⟨f, fd, ps, dds, G0, hf1, hf2, hk, hf, hb, rfl⟩ := ok.ex
        obtain rfl : u = Value.ref a := rx
        obtain ⟨od1, J1⟩ := Inv.inst I1 h1
        obtain ⟨mm, F⟩ := I1.fr
        refine PySem.W.truthy_K F I1.ok.mod.kin J1 hf1 hf2 (thn (run_fnA (us := [.ref a]) hf hr hb rfl I1 sa1 (.cons rd .nil) (.cons rfl .nil) (Post.bindI q fun r m2 v U st2 sa2 rv q2 => ?_)) fun v s2 h => boolBack (pins := pins) (σ := σ) h)
        cases rv with
        | bl b => exact ⟨b, rfl, fun s I => ⟨U.H, I, Post.ok q2 (Stp.refl U) sa2 rfl⟩⟩
        | _ => exact (show False from q2).elim
      · exact (show False from q).elim
    · exact (show False from q).elim
end
end DL

namespace DL
open PySem PySem.Spec PySem.Calls PyProof.Rows L2
variable [LamTab]
open PySem.W (InstAt findIn isFn mroIn)
/-! ### != by the default, which asks == -/
section
variable {prog : Program} {w : World} {A : Around} {E : Value → Shared → Prop} {s : Shared} {K : PySem.W.Frag} {x C L f : Addr} {h₀ : Heap} {m : Str → Option Value} {ox : Obj} {od : Option Obj} {b tb : Value}
theorem ifBound_S {M : Model} {name : Str} {id : String} {args : List Value} {Q : Option Value → Shared → Prop} (X : K.In s.heap) (I : InstAt s.heap x ox C od) (hs : findIn K (.ref C) name = some (some (.builtin id)))
    (hb : ∀ self, bindSpecial (.builtin id) self = pure (.builtin id, [self])) (h : wpAny M A (call (.builtin id) (.ref x :: args)) (fun v => Q (some v)) E s) : wpAny M A (callSpecialIfBound? (.ref x) name args) Q E s := by
  simp only [callSpecialIfBound?, bindSpecialIfBound?]
  refine wpAny_holding (wpAny_bind (wpAny_bind (wpAny_bind (I.type.here ((PySem.W.looks_findIn X hs).here ?_)))))
  refine wpAny_bind (wpAny_askSetting (wpAny_ite ?_))
  have fin : wpAny M A (call (.builtin id) ([.ref x] ++ args) >>= fun v => pure (some v)) Q E s := wpAny_bind (wpAny_mono h (fun v s' h' => wpAny_pure h') fun _ _ h' => h')
  split
  · exact wpAny_bind ((PySem.W.Looks.of_pure (hb _)).here (wpAny_pure (by exact fin)))
  · exact wpAny_tryCatch (wpAny_bind ((PySem.W.Looks.of_pure (hb _)).here (wpAny_pure (by exact fin))))
theorem ne_K {Q : Value → Shared → Prop} (hu : A.units + 1 < cLine) (F : Fr h₀ L s.heap m) (X₀ : K.In h₀) (I : InstAt s.heap x ox C od) (hb : PySem.W.Looks (model prog w) s.heap (typeOf b) tb) (hn : PySem.W.notFirst K C tb = true)
    (hne : findIn K (.ref C) "__ne__" = some (some (.builtin "object.__ne__"))) (hm : mroIn K C (.type "object") = some true)
    (hs : findIn K (.ref C) "__eq__" = some (some (.ref f))) (hf : isFn K (.ref f) = true)
    (h : wpAny (model prog w) A.in1 (call (.ref f) [.ref x, b]) (fun v s' => ∃ r, v = .bool r ∧ Q (.bool (!r)) s') E s) : wpAny (model prog w) A (richCompare .NotEq (.ref x) b) Q E s := by
  have X := X₀.keeps F.keep
  have one : wpAny (model prog w) A (tryCompare (.ref x) (cmpInfo .NotEq).2.1 b) (fun r s' => ∃ v, r = some v ∧ Q v s') E s := by
    unfold tryCompare
    refine wpAny_bind (ifBound_S X I hne PySem.F.slot_object_ne.bind ?_)
    refine wpAny_call (codeAny_call_builtin PySem.F.slot_object_ne.plain PySem.F.entry_object_ne (PySem.W.check_slot (i := "object.__ne__") (owner := "object") (n := "__ne__") (by decide +kernel) (by decide +kernel) (I.type.andThen (PySem.W.looks_mroIn X hm)) (PySem.F.args_object_ne_2 _ _) ?_))
    unfold Builtin.«object.__ne__»
    refine wpAny_bind (m := slotArgs "__ne__" 1 _) (wpAny_pure ?_)
    refine wpAny_bind (m := cRoomFor _ _) (wpAny_cRoomFor (by show A.units + 1 < cLine; exact hu) ?_)
    refine wpAny_bind (m := callSpecialIfBound? (.ref x) "__eq__" _) (PySem.W.ifBound_K X I hs hf (wpAny_mono h (fun r s' hq => ?_) fun _ _ y => y))
    obtain ⟨r, rfl, q⟩ := hq
    refine wpAny_bind (wpAny_truthy_bool ?_)
    exact wpAny_pure (wpAny_pure ⟨_, rfl, q⟩)
  unfold richCompare
  simp only [oneThing_ref]
  refine wpAny_holding (wpAny_bind (wpAny_cRoomFor (by omega) ?_))
  refine wpAny_bind (I.type.here (wpAny_bind (hb.here ?_)))
  split
  · rename_i q
    have e : PySem.W.subIn K tb (.ref C) = some false := by
      rcases Bool.or_eq_true_iff.mp hn with e | e
      · rw [beq_iff_eq.mp e] at q; simp at q
      · exact beq_iff_eq.mp e
    refine wpAny_bind ((PySem.W.looks_subIn X e).here ?_)
    simp only [Bool.false_eq_true, if_false]
    refine wpAny_bind (wpAny_mono one (fun r s' z => ?_) fun _ _ e => e)
    obtain ⟨v, rfl, hq⟩ := z
    exact wpAny_pure hq
  · refine wpAny_bind (wpAny_pure ?_)
    simp only [Bool.false_eq_true, if_false]
    refine wpAny_bind (wpAny_mono one (fun r s' z => ?_) fun _ _ e => e)
    obtain ⟨v, rfl, hq⟩ := z
    exact wpAny_pure hq
end
section
variable {X : Cx} {a b c e o : Expr} {es : List Expr} {ta tb tc : DE} {t : DA} {pos : Pos} {k : Nat}
theorem tag_looks {pins : List (Addr × Obj)} {σ : L2.St} {s : Shared} {S : Wd} {m : Mu} {d : D} {v : V} {u : Value} {t : Tg} (I : Inv X pins σ S.H s) (sa : Sta X.K S m) (r : Rep X.K S.i S.F d v) (rv : RelV v u) (ht : tagOf m d = some t) :
    PySem.W.Looks (model X.prog X.w) s.heap (typeOf u) t.val := by
  have pr : ∀ {ty : Value}, TyX X.K S.H v ty → PySem.W.Looks (model X.prog X.w) s.heap (typeOf u) ty := fun ty => by
    obtain ⟨P, Z, p, _⟩ := kit_of I rv ty
    exact Z.ty _ _ I.kIn p
  have ow : ∀ {a C dx : Addr} {fs : List (Str × V)}, v = .ref a → S.H a = some (.ins C dx fs) → PySem.W.Looks (model X.prog X.w) s.heap (typeOf u) (.ref C) := fun {a C dx fs} e h => by
    subst e
    obtain rfl : u = Value.ref a := rv
    obtain ⟨od, J⟩ := Inv.inst I h
    exact J.type
  cases r with
  | non => cases ht; exact pr (.base .non)
  | bl x => cases ht; exact pr (.base (.bl x))
  | int x => cases ht; exact pr (.base (.int x))
  | str x => cases ht; exact pr (.base (.str x))
  | tup h1 h2 => cases ht; exact pr (SqT.tyx (SqT.ext' h1 sa.sub))
  | lst h1 h2 => cases ht; exact pr (SqL.tyx (SqL.ext' h1 sa.sub))
  | obj h1 h2 h3 => cases ht; exact ow rfl (sa.sub _ _ h1)
  | @loc n a h =>
    unfold tagOf at ht
    dsimp only at ht
    split at ht
    · rename_i ds e
      cases ht
      obtain ⟨xs, q1, q2⟩ := sa.ok n a _ h e
      exact pr (.base (.lst q1))
    · rename_i C fs e
      cases ht
      obtain ⟨dx, vs, q1, q2⟩ := sa.ok n a _ h e
      exact ow rfl q1
    · cases ht
  | val v => cases ht
  | xob h1 h2 h3 => cases ht
  | lam h => cases ht
  | clo h h2 h3 => cases ht
/-! ### == and != by an own __eq__ -/
def eqRow (rows : List (Kl × DFn × List Tg)) (C : Addr) (ns : List Str) : Option (DFn × List Tg) := match rows with
  | [] => none
  | (c, G) :: rest => if C = c.a ∧ ns = c.ns then some G else eqRow rest C ns
theorem eqRow_ok {P : Kl × DFn × List Tg → Prop} : ∀ {rows : List (Kl × DFn × List Tg)} {C : Addr} {ns : List Str} {G : DFn × List Tg}, (∀ r ∈ rows, P r) → eqRow rows C ns = some G → ∃ c, P (c, G) ∧ C = c.a ∧ ns = c.ns
  | [], _, _, _, _, h => by cases h
  | (c, i) :: rest, C, ns, d, hr, h => by
    unfold eqRow at h
    split at h
    · rename_i e
      cases h
      exact ⟨c, hr _ List.mem_cons_self, e.1, e.2⟩
    · exact eqRow_ok (fun r hm => hr r (List.mem_cons_of_mem _ hm)) h
structure EqOk (P : Program) (w : World) (K : PySem.W.Frag) (mg : Str → Option Value) (base : Heap) (k : Nat) (r : Kl × DFn × List Tg) : Prop where
  mt : MT P w K mg base k "__eq__" r.1.a r.2.1
  nf : ∀ t ∈ r.2.2, PySem.W.notFirst K r.1.a t.val = true
structure NeOk (K : PySem.W.Frag) (C : Addr) : Prop where
  ne : findIn K (.ref C) "__ne__" = some (some (.builtin "object.__ne__"))
  ob : mroIn K C (.type "object") = some true
def dOwnEq (neg : Bool) (rows : List (Kl × DFn × List Tg)) : D2 := fun x y m => match insOf m x with
  | some (C, ns, _) => match eqRow rows C ns, tagOf m y with
    | some (G, ts), some t => if t ∈ ts then ((G [x, y] m).bind fun r m1 => match r with
        | .bl b => .ok (.bl (neg ^^ b)) m1
        | _ => .stuck) else .stuck
    | _, _ => .stuck
  | none => .stuck
theorem od_ownEq {rows : List (Kl × DFn × List Tg)} (hrows : ∀ r ∈ rows, EqOk X.prog X.w X.K X.mg X.base k r) (hr : Room k X.A) : OD X (compareOp .Eq) (dOwnEq false rows) := by
  intro pins s σ S m x y vx vy u w Q sa rx ry I hu hw p
  unfold dOwnEq at p
  split at p
  · rename_i C ns ds ei
    split at p
    · rename_i G ts t eG eT
      split at p
      · rename_i ht
        obtain ⟨c, ok, rfl, rfl⟩ := eqRow_ok (P := EqOk X.prog X.w X.K X.mg X.base k) hrows eG
        obtain ⟨a, dx, vs, rfl, h1, h2, h3⟩ := insOf_ok sa rx ei
        obtain ⟨f, fd, ps, dds, G0, hf1, hf2, hk, hf, hb, rfl⟩ := ok.mt.ex
        obtain rfl : u = Value.ref a := hu
        obtain ⟨od1, J1⟩ := Inv.inst I h1
        obtain ⟨mm, F⟩ := I.fr
        refine PySem.W.cmp_K (op := .Eq) hr.units0 F I.ok.mod.kin J1 (tag_looks I sa ry hw eT) (ok.nf t ht) hf1 hf2 (thn (run_fnA (us := [.ref a, w]) hf hr hb rfl I sa (.cons rx (.cons ry .nil)) (.cons rfl (.cons hw .nil)) (Post.bindI p fun r m2 v U st2 sa2 rv q2 => ?_)) fun v s1 h => cmpBack_of h fun h => h)
        cases rv with
        | bl b => (dsimp only at q2; rw [Bool.false_xor] at q2); exact Post.ok q2 (Stp.refl U) sa2 (.bl b)
        | _ => exact (show False from q2).elim
      · exact p.elim
    · exact p.elim
  · exact p.elim
theorem od_ownNe {rows : List (Kl × DFn × List Tg)} (hrows : ∀ r ∈ rows, EqOk X.prog X.w X.K X.mg X.base k r) (hne : ∀ r ∈ rows, NeOk X.K r.1.a) (hr : Room (k + 1) X.A) : OD X (compareOp .NotEq) (dOwnEq true rows) := by
  intro pins s σ S m x y vx vy u w Q sa rx ry I hu hw p
  unfold dOwnEq at p
  split at p
  · rename_i C ns ds ei
    split at p
    · rename_i G ts t eG eT
      split at p
      · rename_i ht
        obtain ⟨c, ⟨ok, nok⟩, rfl, rfl⟩ := eqRow_ok (P := fun r => EqOk X.prog X.w X.K X.mg X.base k r ∧ NeOk X.K r.1.a) (fun r h => ⟨hrows r h, hne r h⟩) eG
        obtain ⟨a, dx, vs, rfl, h1, h2, h3⟩ := insOf_ok sa rx ei
        obtain ⟨f, fd, ps, dds, G0, hf1, hf2, hk, hf, hb, rfl⟩ := ok.mt.ex
        obtain rfl : u = Value.ref a := hu
        obtain ⟨od1, J1⟩ := Inv.inst I h1
        obtain ⟨mm, F⟩ := I.fr
        refine ne_K (by have := hr.un; omega) F I.ok.mod.kin J1 (tag_looks I sa ry hw eT) (ok.nf t ht) nok.ne nok.ob hf1 hf2 (thn (run_fnA (us := [.ref a, w]) hf hr.in1 hb rfl I sa (.cons rx (.cons ry .nil)) (.cons rfl (.cons hw .nil)) (Q := fun v H => ∃ r, v = .bl r ∧ ∀ s, Inv X pins σ H s → EP X pins σ Q (.bool (!r)) s) (Post.bindI p fun r m2 v U st2 sa2 rv q2 => ?_)) fun v s1 h => ?_)
        · cases rv with
          | bl b =>
            (dsimp only at q2; rw [Bool.true_xor] at q2)
            exact ⟨b, rfl, fun s I => ⟨.bl (!b), U.H, I, rfl, Post.ok q2 (Stp.refl U) sa2 (.bl _)⟩⟩
          | _ => exact (show False from q2).elim
        · obtain ⟨y, H, I, r, b, rfl, q⟩ := h
          cases r
          exact ⟨b, rfl, q s1 I⟩
      · exact p.elim
    · exact p.elim
  · exact p.elim
/-! ### in, by an own __contains__ -/
def dOwnIn (neg : Bool) (rows : List (Kl × DFn)) : D2 := fun x y m => match insOf m y with
  | some (C, ns, _) => match methAt rows C ns with
    | some G => (G [y, x] m).bind fun r m1 => match r with
      | .bl b => .ok (.bl (neg ^^ b)) m1
      | _ => .stuck
    | _ => .stuck
  | none => .stuck
theorem od_ownIn {rows : List (Kl × DFn)} (hrows : ∀ r ∈ rows, MRow X.prog X.w X.K X.mg X.base k "__contains__" r.1 r.2) (hr : Room k X.A) : OD X (compareOp .In) (dOwnIn false rows) := by
  intro pins s σ S m x y vx vy u w Q sa rx ry I hu hw p
  unfold dOwnIn at p
  split at p
  · rename_i C ns ds ei
    split at p
    · rename_i G eG
      obtain ⟨c, ok, rfl, rfl⟩ := methAt_ok (P := MRow X.prog X.w X.K X.mg X.base k "__contains__") hrows eG
      obtain ⟨a, dx, vs, rfl, h1, h2, h3⟩ := insOf_ok sa ry ei
      obtain ⟨f, fd, ps, dds, G0, hf1, hf2, hk, hf, hb, rfl⟩ := ok.ex
      obtain rfl : w = Value.ref a := hw
      obtain ⟨od1, J1⟩ := Inv.inst I h1
      obtain ⟨mm, F⟩ := I.fr
      refine PySem.W.in_K F I.ok.mod.kin J1 hf1 hf2 (thn (run_fnA (us := [.ref a, u]) hf hr hb rfl I sa (.cons ry (.cons rx .nil)) (.cons rfl (.cons hu .nil)) (Q := fun v H => ∃ r, v = .bl r ∧ ∀ s, Inv X pins σ H s → EP X pins σ Q (.bool r) s) (Post.bindI p fun r m2 v U st2 sa2 rv q2 => ?_)) fun v s1 h => ?_)
      · cases rv with
        | bl b => (dsimp only at q2; rw [Bool.false_xor] at q2); exact ⟨b, rfl, fun s I => ⟨.bl b, U.H, I, rfl, Post.ok q2 (Stp.refl U) sa2 (.bl _)⟩⟩
        | _ => exact (show False from q2).elim
      · obtain ⟨y, H, I, r, b, rfl, q⟩ := h
        cases r
        exact wpAny_truthy_bool (q s1 I)
    · exact p.elim
  · exact p.elim
theorem od_ownNotIn {rows : List (Kl × DFn)} (hrows : ∀ r ∈ rows, MRow X.prog X.w X.K X.mg X.base k "__contains__" r.1 r.2) (hr : Room k X.A) : OD X (compareOp .NotIn) (dOwnIn true rows) := by
  intro pins s σ S m x y vx vy u w Q sa rx ry I hu hw p
  unfold dOwnIn at p
  split at p
  · rename_i C ns ds ei
    split at p
    · rename_i G eG
      obtain ⟨c, ok, rfl, rfl⟩ := methAt_ok (P := MRow X.prog X.w X.K X.mg X.base k "__contains__") hrows eG
      obtain ⟨a, dx, vs, rfl, h1, h2, h3⟩ := insOf_ok sa ry ei
      obtain ⟨f, fd, ps, dds, G0, hf1, hf2, hk, hf, hb, rfl⟩ := ok.ex
      obtain rfl : w = Value.ref a := hw
      obtain ⟨od1, J1⟩ := Inv.inst I h1
      obtain ⟨mm, F⟩ := I.fr
      refine PySem.W.notIn_K F I.ok.mod.kin J1 hf1 hf2 (thn (run_fnA (us := [.ref a, u]) hf hr hb rfl I sa (.cons ry (.cons rx .nil)) (.cons rfl (.cons hu .nil)) (Q := fun v H => ∃ r, v = .bl r ∧ ∀ s, Inv X pins σ H s → EP X pins σ Q (.bool (!r)) s) (Post.bindI p fun r m2 v U st2 sa2 rv q2 => ?_)) fun v s1 h => ?_)
      · cases rv with
        | bl b => (dsimp only at q2; rw [Bool.true_xor] at q2); exact ⟨b, rfl, fun s I => ⟨.bl (!b), U.H, I, rfl, Post.ok q2 (Stp.refl U) sa2 (.bl _)⟩⟩
        | _ => exact (show False from q2).elim
      · obtain ⟨y, H, I, r, b, rfl, q⟩ := h
        cases r
        exact wpAny_truthy_bool (q s1 I)
    · exact p.elim
  · exact p.elim
/-! ### len, repr, str, format of own objects -/
theorem strBack {pins : List (Addr × Obj)} {σ : L2.St} {Q : Value → Shared → Prop} {v : Value} {s : Shared} (h : EP X pins σ (fun v H => ∃ x, v = .str x ∧ ∀ t s, Inv X pins σ H s → Q (.str x t) s) v s) : PySem.W.StrBack Q v s := by
  obtain ⟨y, H, I, r, x, rfl, q⟩ := h
  obtain ⟨t, rfl⟩ := r
  exact q t s I
def dOwnStr (rows : List (Kl × DFn)) : DFn := fun ds m => match ds with
  | [x] => match insOf m x with
    | some (C, ns, _) => match methAt rows C ns with
      | some G => (G [x] m).bind fun r m1 => match r with
        | .str z => .ok (.str z) m1
        | _ => .stuck
      | none => .stuck
    | none => .stuck
  | _ => .stuck
theorem ownStr_run {mn : Str} {rows : List (Kl × DFn)} (hrows : ∀ r ∈ rows, MRow X.prog X.w X.K X.mg X.base k mn r.1 r.2) {pins : List (Addr × Obj)} {s : Shared} {σ : L2.St} {S : Wd} {m : Mu} {x : D} {vx : V} {u : Value} {Q : VK} (sa : Sta X.K S m) (rx : Rep X.K S.i S.F x vx) (I : Inv X pins σ S.H s) (hu : RelV vx u)
    (p : PostD X.K S (dOwnStr rows [x] m) Q (fun c d H => Fly X c d σ H)) :
    ∃ (a f C : Addr) (od : Obj) (dx : Addr), u = .ref a ∧ InstAt s.heap a (PySem.W.instObj C dx) C (some od) ∧ findIn X.K (.ref C) mn = some (some (.ref f)) ∧ isFn X.K (.ref f) = true ∧
      ∀ A s', A.frames = X.A.frames → Room k A → Inv X pins σ S.H s' → wpAny (model X.prog X.w) A (call (.ref f) [.ref a]) (PySem.W.StrBack fun v s => EP X pins σ Q v s) X.xe s' := by
  unfold dOwnStr at p
  dsimp only at p
  split at p
  · rename_i C ns ds ei
    split at p
    · rename_i G eG
      obtain ⟨c, ok, rfl, rfl⟩ := methAt_ok (P := MRow X.prog X.w X.K X.mg X.base k mn) hrows eG
      obtain ⟨a, dx, vs, rfl, h1, h2, h3⟩ := insOf_ok sa rx ei
      obtain ⟨f, fd, ps, dds, G0, hf1, hf2, hk, hf, hb, rfl⟩ := ok.ex
      obtain rfl : u = Value.ref a := hu
      obtain ⟨od1, J1⟩ := Inv.inst I h1
      refine ⟨a, f, _, od1, dx, rfl, J1, hf1, hf2, fun A s' hA hr I' => thn (run_fnA (us := [.ref a]) hf hr hb hA I' sa (.cons rx .nil) (.cons rfl .nil) (Post.bindI p fun r m2 v U st2 sa2 rv q2 => ?_)) fun v s1 h => strBack (pins := pins) (σ := σ) h⟩
      cases rv with
      | str z => exact ⟨z, rfl, fun t s I => ⟨.str z, U.H, I, ⟨t, rfl⟩, Post.ok q2 (Stp.refl U) sa2 (.str z)⟩⟩
      | _ => exact (show False from q2).elim
    · exact (show False from p).elim
  · exact (show False from p).elim
theorem oc_reprO {rows : List (Kl × DFn)} (hrows : ∀ r ∈ rows, MRow X.prog X.w X.K X.mg X.base k "__repr__" r.1 r.2) (hr : Room (k + 1) X.A) : OC X (.builtin "repr") (dOwnStr rows) := by
  intro pins s σ S m ds xs us Q sa r rv I p
  match ds, xs, us, r, rv with
  | [x], [vx], [u], .cons rx .nil, .cons hu .nil =>
    obtain ⟨a, f, C, od, dx, rfl, J, h1, h2, run⟩ := ownStr_run hrows sa rx I hu p
    obtain ⟨mm, F⟩ := I.fr
    exact PySem.W.repr_K (by have := hr.un; show X.A.units + 1 < _; omega) F I.ok.mod.kin J h1 h2 (run _ s rfl hr.in1 I)
  | [], _, _, _, _ => exact p.elim
  | _ :: _ :: _, _, _, _, _ => exact p.elim
theorem oc_strO {rows : List (Kl × DFn)} (hrows : ∀ r ∈ rows, MRow X.prog X.w X.K X.mg X.base k "__str__" r.1 r.2) (hr : Room (k + 2) X.A) : OC X (.type "str") (dOwnStr rows) := by
  intro pins s σ S m ds xs us Q sa r rv I p
  match ds, xs, us, r, rv with
  | [x], [vx], [u], .cons rx .nil, .cons hu .nil =>
    obtain ⟨a, f, C, od, dx, rfl, J, h1, h2, run⟩ := ownStr_run hrows sa rx I hu p
    exact PySem.W.kso_call (by have := hr.un; show X.A.units + 1 + 1 < _; omega) I.kIn J h1 h2 (run _ s rfl hr.in1.in1 I)
  | [], _, _, _, _ => exact p.elim
  | _ :: _ :: _, _, _, _, _ => exact p.elim
end
end DL

namespace DL
open PySem PySem.Spec PySem.Calls PyProof.Rows L2
variable [LamTab]
section
variable {X : Cx} {a b c e o : Expr} {es : List Expr} {ta tb tc : DE} {t : DA} {pos p apos : Pos} {k : Nat} {x mn : Str}
/-! ### f-strings -/
def dFmt (rows : List (Kl × DFn)) (t : DE) : DE := fun e m => (t e m).bind fun d m1 => match d with
  | .str y => if y.length ≤ sizeLine then .ok (.str y) m1 else .stuck
  | .int i => if i.natAbs.log2 < 1920 then .ok (.str (toString i)) m1 else .stuck
  | d => dOwnStr rows [d] m1
structure FmtOk (P : Program) (w : World) (K : PySem.W.Frag) (mg : Str → Option Value) (base : Heap) (k : Nat) (c : Kl) (G : DFn) : Prop where
  mt : MT P w K mg base k "__str__" c.a G
  fm : PySem.W.findIn K (.ref c.a) "__format__" = some (some (.builtin "object.__format__"))
  ob : PySem.W.mroIn K c.a (.type "object") = some true
theorem pd_fmt {rows : List (Kl × DFn)} (he : PDE X e ta) (hrows : ∀ r ∈ rows, FmtOk X.prog X.w X.K X.mg X.base k r.1 r.2) (hr : Room (k + 1) X.A) : PDE X (.FormattedValue e (-1) none pos) (dFmt rows ta) := by
  intro S r m σ Q sa re q pins s I
  refine wpAny_FormattedValue_plain (thn (he.run sa re q I) ?_)
  rintro u s1 ⟨x, d, m1, T, st, sa1, rd, rx, I1, q1⟩
  split at q1
  · rename_i y
    cases rd
    split at q1
    · rename_i hz
      obtain ⟨t, rfl⟩ := rx
      have q2 := Post.ok q1 (Stp.refl T) sa1 (.str y)
      exact wpAny_formatField_str ⟨.str y, _, I1, ⟨t, rfl⟩, q2⟩ ⟨.str y, _, I1.tok _, ⟨_, rfl⟩, q2⟩ hz
    · exact (show False from q1).elim
  · rename_i i
    cases rd
    split at q1
    · rename_i hz
      obtain ⟨t, rfl⟩ := rx
      have q2 := Post.ok q1 (Stp.refl T) sa1 (.str _)
      exact wpAny_formatField_int hz ⟨.str (toString i), _, I1.tok _, ⟨_, rfl⟩, q2⟩
    · exact (show False from q1).elim
  · unfold dOwnStr at q1
    dsimp only at q1
    split at q1
    · rename_i C ns ds ei
      split at q1
      · rename_i G eG
        obtain ⟨c, ok, rfl, rfl⟩ := methAt_ok (P := FmtOk X.prog X.w X.K X.mg X.base k) hrows eG
        obtain ⟨a, dx, vs, rfl, h1, h2, h3⟩ := insOf_ok sa1 rd ei
        obtain ⟨f, fd, ps, dds, G0, hf1, hf2, hk, hf, hb, rfl⟩ := ok.mt.ex
        obtain rfl : u = Value.ref a := rx
        obtain ⟨od1, J1⟩ := Inv.inst I1 h1
        refine PySem.W.kfo_fieldS (by have := hr.un; show X.A.units + 1 < _; omega) I1.kIn J1 ok.fm ok.ob hf1 hf2 (thn (run_fnA (us := [.ref a]) hf hr.in1 hb rfl (I1.tok _) sa1 (.cons rd .nil) (.cons rfl .nil) (Post.bindI q1 fun r m2 v U st2 sa2 rv q2 => ?_)) fun v s2 h => strBack (pins := pins) (σ := σ) h)
        cases rv with
        | str z => exact ⟨z, rfl, fun t s I => ⟨.str z, U.H, I, ⟨t, rfl⟩, Post.ok q2 (Stp.refl U) sa2 (.str z)⟩⟩
        | _ => exact (show False from q2).elim
      · exact (show False from q1).elim
    · exact (show False from q1).elim
def dJs : List DE → Str → DE
  | [], acc, _, m => .ok (.str acc) m
  | t :: ts, acc, e, m => (t e m).bind fun d m1 => match d with
    | .str y => if (acc ++ y).length ≤ sizeLine then dJs ts (acc ++ y) e m1 else .stuck
    | _ => .stuck
inductive PDJ (X : Cx) : List Expr → List DE → Prop where
  | nil : PDJ X [] []
  | cons {e : Expr} {t : DE} {es : List Expr} {ts : List DE} (h : PDE X e t) (r : PDJ X es ts) : PDJ X (e :: es) (t :: ts)
theorem pj_mx : ∀ {es : List Expr} {ts : List DE}, PDJ X es ts → PJ X es (es.map (WE X))
  | _, _, .nil => .nil
  | _, _, .cons h r => .cons (mxE X _) (pj_mx r)
theorem tjs_of : ∀ {es : List Expr} {ts : List DE}, PDJ X es ts → ∀ (acc : Str) {S : Wd} {r : En} {m : Mu} {σ : L2.St} {Q : Str → Hp → Prop}, Sta X.K S m → RelE X.K S r σ →
    PostD X.K S (dJs ts acc r m) (fun v H => ∃ y, v = .str y ∧ Q y H) (fun c d H => Fly X c d σ H) → tJs (es.map (WE X)) acc σ S.H Q
  | _, _, .nil, acc, S, r, m, σ, Q, sa, re, q => by
    obtain ⟨y, e, q⟩ := Post.ok q (Stp.refl S) sa (.str acc)
    cases e
    exact q
  | _, _, .cons h rr, acc, S, r, m, σ, Q, sa, re, q => by
    refine h S r m σ _ sa re (Post.bindI q fun d m1 v T st sa1 rd q1 => ?_)
    split at q1
    · rename_i y
      cases rd
      split at q1
      · rename_i hz
        exact ⟨y, rfl, hz, tjs_of rr (acc ++ y) sa1 (re.stp st) q1⟩
      · exact (show False from q1).elim
    · exact (show False from q1).elim
theorem dJs_str {ts : List DE} : ∀ {acc : Str} {e : En} {m : Mu} {K : PySem.W.Frag} {S : Wd} {Q : VK} {W : XK}, PostD K S (dJs ts acc e m) Q W → PostD K S (dJs ts acc e m) (fun v H => ∃ y, v = .str y ∧ Q (.str y) H) W := by
  induction ts with
  | nil => exact fun q v T st sa rd => by cases rd; exact ⟨_, rfl, q _ T st sa (.str _)⟩
  | cons t ts ih =>
    intro acc e m K S Q W q
    unfold dJs at q ⊢
    cases h : t e m with
    | stuck => rw [h] at q; exact q
    | exc C fs m1 => rw [h] at q; exact q
    | ok d m1 =>
      rw [h] at q
      rw [Res.bind_ok] at q ⊢
      cases d with
      | str y =>
        dsimp only at q ⊢
        by_cases hz : (acc ++ y).length ≤ sizeLine
        · rw [if_pos hz] at q ⊢
          exact ih q
        · rw [if_neg hz] at q ⊢
          exact q
      | _ => exact q
theorem pd_joined {v1 v2 : Expr} {rest : List Expr} {ts : List DE} (h : PDJ X (v1 :: v2 :: rest) ts) : PDE X (.JoinedStr (v1 :: v2 :: rest) pos) (dJs ts Str.empty) := by
  refine pd_of (pe_joined (pj_mx h)) fun S r m σ Q sa re q => ?_
  exact tjs_of h Str.empty sa re (dJs_str q)
theorem pd_joined1 (h : PDE X e ta) : PDE X (.JoinedStr [e] pos) ta := pd_of (pe_joined1 (mxE X e)) h
/-! ### static and class methods, called on the class -/
structure SMet (P : Program) (w : World) (K : PySem.W.Frag) (mg : Str → Option Value) (base : Heap) (k : Nat) (x mn : Str) (G : DFn) : Prop where
  ex : ∃ (C pp f : Addr) (fd : FuncData) (ps : List Str) (dds : List D) (G0 : DFn), mg x = some (.ref C) ∧ PySem.W.readsIn K C (.type "type") = true ∧ PySem.W.specialIn K (.ref C) "__getattribute__" = some (some (.builtin "type.__getattribute__")) ∧
    PySem.W.findCls K (.ref C) (.type "type") mn = some (.get (.builtin "staticmethod.__get__") (.ref pp) .none (.ref C)) ∧ (∃ rest, PySem.W.recIn K pp "staticmethod" = some (.ref f :: rest)) ∧
    PySem.W.keepIn K (.ref f) = true ∧ FnD P w K mg base k f fd ps G0 ∧ Bd K fd ps dds ∧ G = padF ps.length dds G0
theorem getsm {pins : List (Addr × Obj)} {σ : L2.St} {H : Hp} {s : Shared} {C pp f : Addr} {pl : Sem Bool} {Q : Value × List Value → Shared → Prop} {E : Value → Shared → Prop} (I : Inv X pins σ H s) (h1 : PySem.W.readsIn X.K C (.type "type") = true) (h2 : PySem.W.specialIn X.K (.ref C) "__getattribute__" = some (some (.builtin "type.__getattribute__")))
    (h3 : PySem.W.findCls X.K (.ref C) (.type "type") mn = some (.get (.builtin "staticmethod.__get__") (.ref pp) .none (.ref C))) (h4 : ∃ rest, PySem.W.recIn X.K pp "staticmethod" = some (.ref f :: rest))
    (h : ∀ s', Inv X pins σ H s' → Q (.ref f, []) s') : wpAny (model X.prog X.w) X.A (getMethod (.ref C) mn pl) Q E s := by
  obtain ⟨rest, hp⟩ := h4
  refine PySem.W.method_cls I.kIn h2 (PySem.W.cls_bind I.kIn h1 h3 ?_)
  exact wpAny_call (PySem.W.sm_get (s := { s with toks := s.toks + 1 }) I.kIn hp (PySem.W.handed_on rfl (h _ (I.tok _))))
theorem pd_smeth {p2 : Pos} {pl : Sem Bool} {G : DFn} (F : SMet X.prog X.w X.K X.mg X.base k x mn G) (hr : Room k X.A) (ha : PDA X (e :: es) t)
    (hg : Gl X x := by rfl) (hdb : (x == ("__debug__" : Str)) = false := by decide)
    (hst : starEach (e :: es) X.env = (false, eval e X.env) :: starEach es X.env := by exact se_cons _ _ _ rfl) (hpl : (backTo pos (starEach es X.env)).any (·.1) = false := by exact se_any _ _ _ rfl)
    (ht : eval (.Call (.Attribute (.Name x p2) mn apos) (e :: es) [] pos) X.env = (do
      let ov ← eval (.Name x p2) X.env
      standAt apos.atName
      let (f, first) ← holding [ov] (getMethod ov mn pl)
      callWith pos f first (backTo pos (starEach (e :: es) X.env)) (backToKw pos (keywordEach [] X.env))) := by rfl) :
    PDE X (.Call (.Attribute (.Name x p2) mn apos) (e :: es) [] pos) (dFun G t) := by
  obtain ⟨C, pp, f, fd, ps, dds, G0, hm, h1, h2, h3, h4, hk, hf, hb, rfl⟩ := F.ex
  intro S r m σ Q sa re q pins s I
  refine PySem.W.methodCall_KW (pl := pl) (ld_glob I hg hm ?_ hdb) ht
  refine getsm I h1 h2 h3 h4 fun s1 I1 => ?_
  refine PySem.W.callWith_K (first := []) (h₀ := X.base) I1.ok.mod.kin hk (thn (ha.run sa re q I1 pos) ?_) hst hpl
  rintro us s2 ⟨xs, das, m2, U, st2, sa2, rds, rv, I2, q2⟩
  exact ⟨I2.kIn, run_fnA (us := us) hf hr hb rfl I2 sa2 rds rv q2⟩
structure SMetK (P : Program) (w : World) (K : PySem.W.Frag) (mg : Str → Option Value) (base : Heap) (k : Nat) (x mn : Str) (n : Nat) (ks : List Str) (G : DFn) : Prop where
  ex : ∃ (C pp f : Addr) (fd : FuncData) (ps : List Str) (pl : List Nat) (dds : List D) (G0 : DFn), mg x = some (.ref C) ∧ PySem.W.readsIn K C (.type "type") = true ∧ PySem.W.specialIn K (.ref C) "__getattribute__" = some (some (.builtin "type.__getattribute__")) ∧
    PySem.W.findCls K (.ref C) (.type "type") mn = some (.get (.builtin "staticmethod.__get__") (.ref pp) .none (.ref C)) ∧ (∃ rest, PySem.W.recIn K pp "staticmethod" = some (.ref f :: rest)) ∧
    PySem.W.keepIn K (.ref f) = true ∧ FnD P w K mg base k f fd ps G0 ∧ BK K fd ps n ks pl dds ∧ G = fun ds m => match pick pl (ds ++ dds) with
      | some xs => G0 xs m
      | none => .stuck
theorem pd_smethK {n : Nat} {ks : List Str} {kws : List Keyword} {tk : DA} {p2 : Pos} {pl : Sem Bool} {G : DFn} (F : SMetK X.prog X.w X.K X.mg X.base k x mn n ks G) (hr : Room k X.A) (ha : PDA X (e :: es) t) (hkw : PDK X kws tk)
    (hks : (backToKw pos (keywordEach kws X.env)).filterMap (·.1) = ks := by rfl) (hall : (backToKw pos (keywordEach kws X.env)).all (·.1.isSome) = true := by rfl)
    (hg : Gl X x := by rfl) (hdb : (x == ("__debug__" : Str)) = false := by decide)
    (hst : starEach (e :: es) X.env = (false, eval e X.env) :: starEach es X.env := by exact se_cons _ _ _ rfl) (hpl : ((backTo pos (starEach (e :: es) X.env)).any (·.1) || (backToKw pos (keywordEach kws X.env)).any (·.1.isNone)) = false := by rfl)
    (ht : eval (.Call (.Attribute (.Name x p2) mn apos) (e :: es) kws pos) X.env = (do
      let ov ← eval (.Name x p2) X.env
      standAt apos.atName
      let (f, first) ← holding [ov] (getMethod ov mn pl)
      callWith pos f first (backTo pos (starEach (e :: es) X.env)) (backToKw pos (keywordEach kws X.env))) := by rfl) :
    PDE X (.Call (.Attribute (.Name x p2) mn apos) (e :: es) kws pos) (dFunK G n ks.length t tk) := by
  obtain ⟨C, pp, f, fd, ps, pl', dds, G0, hm, h1, h2, h3, h4, hk, hf, hb, rfl⟩ := F.ex
  intro S r m σ Q sa re q pins s I
  refine PySem.W.methodCall_KW (pl := pl) (ld_glob I hg hm ?_ hdb) ht
  refine getsm I h1 h2 h3 h4 fun s0 I0 => ?_
  refine PySem.W.callWith_KW (first := []) (h₀ := X.base) I0.ok.mod.kin hk hall (thn (ha.run sa re q I0 pos) ?_) hpl hst
  rintro us s1 ⟨xs, das, m1, T, st, sa1, rds, rv, I1, q1⟩
  refine thn (hkw.run sa1 (re.stp st) q1 I1 pos) ?_
  rintro ws s2 ⟨zs, dzs, m2, U, st2, sa2, rdz, rz, I2, q2⟩
  refine ⟨I2.kIn, ?_⟩
  rw [hks]
  split at q2
  · rename_i hl
    dsimp only at q2
    split at q2
    · rename_i xs' hp
      exact run_fnK hf hr hb I2 sa2 (rds.stp st2) rdz rv rz hl.1 hl.2 hp q2
    · exact q2.elim
  · exact q2.elim
/-! ### keywords in methods -/
structure MTK (P : Program) (w : World) (K : PySem.W.Frag) (mg : Str → Option Value) (base : Heap) (k : Nat) (mn : Str) (n : Nat) (ks : List Str) (c : Kl) (G : DFn) : Prop where
  cl : Cls K c.a
  no : mn ∉ c.ns
  ex : ∃ (f : Addr) (fd : FuncData) (ps : List Str) (pl : List Nat) (dds : List D) (G0 : DFn), PySem.W.findIn K (.ref c.a) mn = some (some (.ref f)) ∧ PySem.W.isFn K (.ref f) = true ∧ PySem.W.keepIn K (.ref f) = true ∧ FnD P w K mg base k f fd ps G0 ∧ BK K fd ps (n + 1) ks pl dds ∧
    G = fun ds m => match pick pl (ds ++ dds) with
      | some xs => G0 xs m
      | none => .stuck
def dMethK (rows : List (Kl × DFn)) (n nk : Nat) (to : DE) (t u : DA) : DE := fun e m => (to e m).bind fun o m1 => match insOf m1 o with
  | some (C, ns, _) => match methAt rows C ns with
    | some G => (t e m1).bind fun ds m2 => (u e m2).bind fun zs m3 => if ds.length = n ∧ zs.length = nk then G (o :: (ds ++ zs)) m3 else .stuck
    | none => .stuck
  | none => .stuck
theorem pd_methK {n : Nat} {ks : List Str} {kws : List Keyword} {to : DE} {tk : DA} {rows : List (Kl × DFn)} {pl : Sem Bool} (he : PDE X o to) (hrows : ∀ r ∈ rows, MTK X.prog X.w X.K X.mg X.base k mn n ks r.1 r.2) (hr : Room k X.A) (ha : PDA X (e :: es) t) (hkw : PDK X kws tk)
    (hks : (backToKw pos (keywordEach kws X.env)).filterMap (·.1) = ks := by rfl) (hall : (backToKw pos (keywordEach kws X.env)).all (·.1.isSome) = true := by rfl)
    (hst : starEach (e :: es) X.env = (false, eval e X.env) :: starEach es X.env := by exact se_cons _ _ _ rfl) (hpl : ((backTo pos (starEach (e :: es) X.env)).any (·.1) || (backToKw pos (keywordEach kws X.env)).any (·.1.isNone)) = false := by rfl)
    (ht : eval (.Call (.Attribute o mn apos) (e :: es) kws pos) X.env = (do
      let ov ← eval o X.env
      standAt apos.atName
      let (f, first) ← holding [ov] (getMethod ov mn pl)
      callWith pos f first (backTo pos (starEach (e :: es) X.env)) (backToKw pos (keywordEach kws X.env))) := by rfl) :
    PDE X (.Call (.Attribute o mn apos) (e :: es) kws pos) (dMethK rows n ks.length to t tk) := by
  intro S r m σ Q sa re q pins s I
  refine PySem.W.methodCall_KW (pl := pl) (thn (he.run sa re q I) ?_) ht
  rintro u s1 ⟨x, d, m1, T, st, sa1, rd, rx, I1, q1⟩
  split at q1
  · rename_i C ns ds ei
    split at q1
    · rename_i G eG
      obtain ⟨c, ok, rfl, rfl⟩ := methAt_ok (P := MTK X.prog X.w X.K X.mg X.base k mn n ks) hrows eG
      obtain ⟨a, dx, vs, rfl, h1, h2, h3⟩ := insOf_ok sa1 rd ei
      obtain ⟨f, fd, ps, plk, dds, G0, hf1, hf2, hk, hf, hb, rfl⟩ := ok.ex
      obtain rfl : u = Value.ref a := rx
      refine getmeth_ok I1 h1 ok.cl ⟨hf1, hf2, hk⟩ (lookup_not (by rw [h2]; exact ok.no)) ?_
      refine PySem.W.callWith_KW (first := [.ref a]) (h₀ := X.base) I.ok.mod.kin hk hall (thn (ha.run sa1 (re.stp st) q1 I1 pos) ?_) hpl hst
      rintro us s2 ⟨xs, das, m2, U, st2, sa2, rds, rv, I2, q2⟩
      refine thn (hkw.run sa2 ((re.stp st).stp st2) q2 I2 pos) ?_
      rintro ws s3 ⟨zs, dzs, m3, Z, st3, sa3, rdz, rz, I3, q3⟩
      refine ⟨I3.kIn, ?_⟩
      rw [hks]
      split at q3
      · rename_i hl
        dsimp only at q3
        split at q3
        · rename_i xs' hp
          exact run_fnK (us := .ref a :: us) hf hr hb I3 sa3 (.cons ((rd.stp st2).stp st3) (rds.stp st3)) rdz (.cons rfl rv) rz (by simp [hl.1]) hl.2 hp q3
        · exact q3.elim
      · exact q3.elim
    · exact (show False from q1).elim
  · exact (show False from q1).elim
theorem pd_methK0 {ks : List Str} {kws : List Keyword} {to : DE} {tk : DA} {rows : List (Kl × DFn)} {pl : Sem Bool} (he : PDE X o to) (hrows : ∀ r ∈ rows, MTK X.prog X.w X.K X.mg X.base k mn 0 ks r.1 r.2) (hr : Room k X.A) (hkw : PDK X kws tk)
    (hks : (backToKw pos (keywordEach kws X.env)).filterMap (·.1) = ks := by rfl) (hall : (backToKw pos (keywordEach kws X.env)).all (·.1.isSome) = true := by rfl)
    (hpl : ((backTo pos (starEach [] X.env)).any (·.1) || (backToKw pos (keywordEach kws X.env)).any (·.1.isNone)) = false := by rfl)
    (ht : eval (.Call (.Attribute o mn apos) [] kws pos) X.env = (do
      let ov ← eval o X.env
      standAt apos.atName
      let (f, first) ← holding [ov] (getMethod ov mn pl)
      callWith pos f first (backTo pos (starEach [] X.env)) (backToKw pos (keywordEach kws X.env))) := by rfl) :
    PDE X (.Call (.Attribute o mn apos) [] kws pos) (dMethK rows 0 ks.length to dNil tk) := by
  intro S r m σ Q sa re q pins s I
  refine PySem.W.methodCall_KW (pl := pl) (thn (he.run sa re q I) ?_) ht
  rintro u s1 ⟨x, d, m1, T, st, sa1, rd, rx, I1, q1⟩
  split at q1
  · rename_i C ns ds ei
    split at q1
    · rename_i G eG
      obtain ⟨c, ok, rfl, rfl⟩ := methAt_ok (P := MTK X.prog X.w X.K X.mg X.base k mn 0 ks) hrows eG
      obtain ⟨a, dx, vs, rfl, h1, h2, h3⟩ := insOf_ok sa1 rd ei
      obtain ⟨f, fd, ps, plk, dds, G0, hf1, hf2, hk, hf, hb, rfl⟩ := ok.ex
      obtain rfl : u = Value.ref a := rx
      refine getmeth_ok I1 h1 ok.cl ⟨hf1, hf2, hk⟩ (lookup_not (by rw [h2]; exact ok.no)) ?_
      refine PySem.W.callWith_KW0 (first := [.ref a]) (h₀ := X.base) I.ok.mod.kin hk hall (thn (hkw.run sa1 (re.stp st) (f := fun zs m3 => if ([] : List D).length = 0 ∧ zs.length = ks.length then _ else .stuck) q1 I1 pos) ?_) hpl
      rintro ws s3 ⟨zs, dzs, m3, Z, st3, sa3, rdz, rz, I3, q3⟩
      refine ⟨I3.kIn, ?_⟩
      rw [hks]
      split at q3
      · rename_i hl
        dsimp only at q3
        split at q3
        · rename_i xs' hp
          exact run_fnK (us := [.ref a]) (vs := [.ref a]) (das := [d]) hf hr hb I3 sa3 (.cons (rd.stp st3) .nil) rdz (.cons rfl .nil) rz rfl hl.2 hp q3
        · exact q3.elim
      · exact q3.elim
    · exact (show False from q1).elim
  · exact (show False from q1).elim
end
end DL

namespace DL
open PySem PySem.Spec PyProof.Rows L2
variable [LamTab]
/-! ### what a def leaves behind: its own store is dropped, a list of it that is handed out stays as it is -/
open Classical in
noncomputable def zapR (k : Nat) (r : Res D) : Res D := match r with
  | .ok d m2 => if Cl (m2.take k) ∧ (m2.take k).length = k then (match d with
      | .loc n => if n < k then .ok (.loc n) (m2.take k) else (match m2[n]? with
        | some (.lst ds) => if belows k ds = true then .ok (.lst ds) (m2.take k) else .stuck
        | _ => .stuck)
      | d => if below k d = true then .ok d (m2.take k) else .stuck) else .stuck
  | r => r
noncomputable def dZap (F : DFn) : DFn := fun ds m => zapR m.length (F ds m)
section
variable {K : PySem.W.Frag}
theorem zap_ok {S : Wd} {m : Mu} {r : Res D} {Q : VK} {W : XK} (sa : Sta K S m) (h : PostD K S (zapR m.length r) Q W) : PostD K S r Q W := by
  cases r with
  | stuck => exact h
  | exc C fs m2 => exact h
  | ok d m2 =>
    intro v T st saT rd
    unfold zapR at h
    dsimp only at h
    split at h
    · rename_i hc
      obtain ⟨hcl, hlen⟩ := hc
      obtain ⟨c1, c2⟩ := cut_ok sa st saT (by intro o ho; have := hcl o ho; rw [hlen] at this; exact this)
      have other : ∀ {d : D}, Rep K T.i T.F d v → below m.length d = true → PostD K S (.ok d (m2.take m.length)) Q W → Q v T.H := fun rd hb h =>
        h v (T.cut S.i) c1 c2 (rd.cut saT st.pre (by rw [sa.len]; exact hb))
      split at h
      · rename_i n
        split at h
        · rename_i hn
          exact other rd (by unfold below; exact decide_eq_true hn) h
        · rename_i hn
          split at h
          · rename_i ds e1
            split at h
            · rename_i hb
              cases rd with
              | @loc _ a ha =>
                obtain ⟨xs, q1, q2⟩ := saT.ok n a _ ha e1
                refine h (.ref a) (T.cut S.i) c1 c2 (.lst (.inl (.inl ?_)) (q2.cut saT st.pre (by rw [sa.len]; exact hb)))
                rw [cut_at sa st saT (by omega) ha]
                exact q1
            · exact h.elim
          · exact h.elim
      · split at h
        · rename_i hb
          exact other rd hb h
        · exact h.elim
    · exact h.elim
end
section
variable {P : Program} {w : World} {K : PySem.W.Frag} {mg : Str → Option Value} {base : Heap}
theorem FnD.zap {k : Nat} {f : Addr} {fd : FuncData} {ps : List Str} {F : DFn} (h : FnD P w K mg base k f fd ps F) : FnD P w K mg base k f fd ps (dZap F) :=
  FnOk.imp h fun vs H Q E ⟨h1, S, m, ds, h2, h3, h4, h5⟩ => ⟨h1, S, m, ds, h2, h3, h4, zap_ok h3 h5⟩
end
/-! ### over a list of the store -/
open Classical in
noncomputable def dLoopS (g : DG) (b : DS) (n : Nat) (ds0 : List D) : List D → En → Mu → RS
  | [], e, m => if m[n]? = some (.lst ds0) then .nx e m else .stuck
  | d :: ds, e, m => if m[n]? = some (.lst ds0) then (match g d e with
    | none => .stuck
    | some e1 => match b e1 m with
      | .nx e2 m2 => dLoopS g b n ds0 ds e2 m2
      | .ct e2 m2 => dLoopS g b n ds0 ds e2 m2
      | .bk e2 m2 => .nx e2 m2
      | .rt d m2 => .rt d m2
      | .exc C fs e2 m2 => .exc C fs e2 m2
      | .stuck => .stuck) else .stuck
noncomputable def forS1 (g : DG) (b : DS) (d : D) (e : En) (m1 : Mu) : RS := match d with
  | .lst ds => dLoop g b ds e m1
  | .loc n => match m1[n]? with
    | some (.lst ds) => dLoopS g b n ds ds e m1
    | _ => .stuck
  | _ => .stuck
noncomputable def dForS (t : DE) (g : DG) (b : DS) : DS := fun e m => rsOf e (t e m) fun d m1 => forS1 g b d e m1
section
variable {X : Cx} {tg a b : Expr} {es : List Expr} {ta tb : DE} {t : DA} {pos p tpos : Pos}
theorem pds_forS {iter : Expr} {body : List Stmt} {g : DG} {u : DS} {sl : List Nat} (hi : PDE X iter ta) (hg : PDG X tg g sl) (hb : PDSs X body u) (hc : X.calm = true) (hp : PassesOwn (model X.prog X.w) X.A X.env X.xe)
    (hs : ∀ x, foldedSetIterable iter X.env x = pure x := by intro _; rfl) : PDS X (.For tg iter body [] pos) (dForS ta g u) := by
  refine ps_of (ps_for hp hc (pi_list (mxE X iter)) (mxG X tg) (mxSs X body) hs) fun S r m σ N sa re p => ?_
  refine hi S r m σ _ sa re (?_)
  unfold dForS at p
  cases q : ta r m with
  | stuck => rw [q] at p; exact p
  | exc C fs m1 => rw [q] at p; exact fun dd vs T st hn sa1 h1 h2 => p dd vs σ T st hn sa1 (re.stp st) h1 h2
  | ok d m1 =>
    rw [q] at p
    intro v T st sa1 rd
    have p2 : PostS X.K T (forS1 g u d r m1) N (Fly X) := PostS.step st p
    clear p q
    have p := p2
    clear p2
    unfold forS1 at p
    split at p
    · rename_i ds
      obtain ⟨a, xs, rfl, hr, kk⟩ := frozen sa1 rd
      refine ⟨a, rfl, ⟨xs, (kk T m1 (Stp.refl T) sa1).1⟩, ?_⟩
      have hJ : ItOk X.K T (Itl X.K a) ds := fun U m' i st' sa' => ⟨fun d hd => by
          obtain ⟨v, hv, rv⟩ := (kk U m' st' sa').2.get hd
          refine ⟨⟨xs, v, (kk U m' st' sa').1, hv⟩, fun x H' hy => ⟨U, hy.1.symm, Stp.refl U, sa', ?_⟩⟩
          have := hy.2 xs (kk U m' st' sa').1
          rw [hv] at this; cases this
          exact rv, fun hl => ⟨xs, (kk U m' st' sa').1, by rw [← hr.len]; exact hl⟩⟩
      refine ⟨fun i n σ' H' => n = ds.length - i ∧ i ≤ ds.length ∧ ∃ (U : Wd) (e : En) (m' : Mu), U.H = H' ∧ Stp T U ∧ Sta X.K U m' ∧ RelE X.K U e σ' ∧ PostS X.K U (dLoop g u (ds.drop i) e m') N (Fly X),
        ⟨ds.length, by simp, Nat.zero_le _, T, r, m1, rfl, Stp.refl T, sa1, re.stp st, p⟩, ?_⟩
      rintro i n σ' H' ⟨rfl, hi', U, e, m', rfl, stU, saU, reU, pU⟩
      by_cases hlt : i < ds.length
      · refine .inr ⟨((hJ U m' i stU saU).1 _ (List.getElem?_eq_getElem hlt)).1, fun σ2 H2 => i + 1 ≤ ds.length ∧ ∃ (U2 : Wd) (e2 : En) (m2 : Mu), U2.H = H2 ∧ Stp T U2 ∧ Sta X.K U2 m2 ∧ RelE X.K U2 e2 σ2 ∧ PostS X.K U2 (dLoop g u (ds.drop (i + 1)) e2 m2) N (Fly X),
          fun σ2 H2 h2 => ⟨ds.length - (i + 1), by omega, rfl, h2.1, h2.2⟩, fun x H2 hy => ?_⟩
        obtain ⟨Y, rfl, stY, saY, rdY⟩ := ((hJ U m' i stU saU).1 _ (List.getElem?_eq_getElem hlt)).2 x H2 hy
        rw [List.drop_eq_getElem_cons hlt] at pU
        have pY := PostS.step stY pU
        unfold dLoop at pY
        cases qg : g ds[i] e with
        | none => rw [qg] at pY; exact pY.elim
        | some e1 =>
          rw [qg] at pY
          refine hg Y e m' σ' ds[i] x e1 _ saY (reU.stp stY) rdY qg fun σ1 re1 _ => hb Y e1 m' σ1 _ saY re1 ?_
          have stT := stU.trans stY
          dsimp only at pY
          cases qb : u e1 m' with
          | stuck => rw [qb] at pY; exact pY.elim
          | nx e2 m2 => rw [qb] at pY; exact fun σ2 Z stZ saZ reZ => ⟨hlt, Z, e2, m2, rfl, stT.trans stZ, saZ, reZ, PostS.step stZ pY⟩
          | ct e2 m2 => rw [qb] at pY; exact fun σ2 Z stZ saZ reZ => ⟨hlt, Z, e2, m2, rfl, stT.trans stZ, saZ, reZ, PostS.step stZ pY⟩
          | bk e2 m2 => rw [qb] at pY; exact pY
          | rt d m2 => rw [qb] at pY; exact pY
          | exc C fs e2 m2 => rw [qb] at pY; exact pY
      · have e : i = ds.length := by omega
        subst e
        rw [List.drop_length] at pU
        exact .inl ⟨(hJ U m' _ stU saU).2 (Nat.le_refl _), pU σ' U (Stp.refl U) saU reU⟩
    · rename_i n
      split at p
      · rename_i ds e0
        cases rd with
        | @loc _ a ha =>
        have look : ∀ U m', Stp T U → Sta X.K U m' → m'[n]? = some (.lst ds) → ∃ xs, SqL X.K U.H a xs ∧ Reps X.K U.i U.F ds xs := fun U m' st' sa' e' => by
          obtain ⟨xs, q1, q2⟩ := sa'.ok n a _ (pre_get st'.pre ha) e'
          exact ⟨xs, .inl (.inl q1), q2⟩
        have inj : ∀ U m', Sta X.K U m' → Stp T U → m'[n]? = some (.lst ds) → ∀ xs ys, SqL X.K U.H a xs → U.H a = some (.lst ys) → True := fun _ _ _ _ _ _ _ _ _ => True.intro
        obtain ⟨xs0, k1, k2⟩ := look T m1 (Stp.refl T) sa1 e0
        refine ⟨a, rfl, ⟨xs0, k1⟩, ?_⟩
        refine ⟨fun i nn σ' H' => nn = ds.length - i ∧ i ≤ ds.length ∧ ∃ (U : Wd) (e : En) (m' : Mu), U.H = H' ∧ Stp T U ∧ Sta X.K U m' ∧ RelE X.K U e σ' ∧ PostS X.K U (dLoopS g u n ds (ds.drop i) e m') N (Fly X),
          ⟨ds.length, by simp, Nat.zero_le _, T, r, m1, rfl, Stp.refl T, sa1, re.stp st, p⟩, ?_⟩
        rintro i nn σ' H' ⟨rfl, hi', U, e, m', rfl, stU, saU, reU, pU⟩
        by_cases hlt : i < ds.length
        · rw [List.drop_eq_getElem_cons hlt] at pU
          unfold dLoopS at pU
          split at pU
          · rename_i hgd
            obtain ⟨xs, l1, l2⟩ := look U m' stU saU hgd
            obtain ⟨v, hv, rv⟩ := l2.get (List.getElem?_eq_getElem hlt)
            refine .inr ⟨⟨xs, v, l1, hv⟩, fun σ2 H2 => i + 1 ≤ ds.length ∧ ∃ (U2 : Wd) (e2 : En) (m2 : Mu), U2.H = H2 ∧ Stp T U2 ∧ Sta X.K U2 m2 ∧ RelE X.K U2 e2 σ2 ∧ PostS X.K U2 (dLoopS g u n ds (ds.drop (i + 1)) e2 m2) N (Fly X),
              fun σ2 H2 h2 => ⟨ds.length - (i + 1), by omega, rfl, h2.1, h2.2⟩, fun x H2 hy => ?_⟩
            obtain ⟨rfl, hy2⟩ := hy
            have hx := hy2 xs l1
            rw [hv] at hx
            cases hx
            cases qg : g ds[i] e with
            | none => rw [qg] at pU; exact pU.elim
            | some e1 =>
              rw [qg] at pU
              refine hg U e m' σ' ds[i] v e1 _ saU reU rv qg fun σ1 re1 _ => hb U e1 m' σ1 _ saU re1 ?_
              dsimp only at pU
              cases qb : u e1 m' with
              | stuck => rw [qb] at pU; exact pU.elim
              | nx e2 m2 => rw [qb] at pU; exact fun σ2 Z stZ saZ reZ => ⟨hlt, Z, e2, m2, rfl, stU.trans stZ, saZ, reZ, PostS.step stZ pU⟩
              | ct e2 m2 => rw [qb] at pU; exact fun σ2 Z stZ saZ reZ => ⟨hlt, Z, e2, m2, rfl, stU.trans stZ, saZ, reZ, PostS.step stZ pU⟩
              | bk e2 m2 => rw [qb] at pU; exact pU
              | rt d m2 => rw [qb] at pU; exact pU
              | exc C fs e2 m2 => rw [qb] at pU; exact pU
          · exact pU.elim
        · have e : i = ds.length := by omega
          subst e
          rw [List.drop_length] at pU
          unfold dLoopS at pU
          split at pU
          · rename_i hgd
            obtain ⟨xs, l1, l2⟩ := look U m' stU saU hgd
            exact .inl ⟨⟨xs, l1, by rw [← l2.len]; exact Nat.le_refl _⟩, pU σ' U (Stp.refl U) saU reU⟩
          · exact pU.elim
      · exact p.elim
    · exact p.elim
/-! ### methods of lists of the store -/
/-- o.m(..) of a list of the store -/
def dLm (f : List D → List D → Option (List D × D)) (to : DE) (t : DA) : DE := fun e m => (to e m).bind fun o m1 => match o with
  | .loc n => match m1[n]? with
    | some (.lst _) => (t e m1).bind fun ds m2 => match m2[n]? with
      | some (.lst xs) => match f xs ds with
        | some (ys, d) => .ok d (m2.set n (.lst ys))
        | none => .stuck
      | _ => .stuck
    | _ => .stuck
  | _ => .stuck
def fAppend : List D → List D → Option (List D × D) := fun xs ds => match ds with
  | [d] => if xs.length < sizeLine then some (xs ++ [d], .non) else none
  | _ => none
def fClear : List D → List D → Option (List D × D) := fun _ ds => match ds with
  | [] => some ([], .non)
  | _ => none
def fPop : List D → List D → Option (List D × D) := fun xs ds => match ds with
  | [] => match xs[xs.length - 1]? with
    | some d => some (xs.dropLast, d)
    | none => none
  | _ => none
def fPopAt : List D → List D → Option (List D × D) := fun xs ds => match ds with
  | [.int i] => if -(2 ^ 63) ≤ i ∧ i < 2 ^ 63 then (match ixN xs.length i with
    | some k => match xs[k]? with
      | some d => some (xs.eraseIdx k, d)
      | none => none
    | none => none) else none
  | _ => none
def fInsert : List D → List D → Option (List D × D) := fun xs ds => match ds with
  | [.int i, d] => if 0 ≤ i ∧ i < 2 ^ 63 ∧ xs.length < sizeLine then some (xs.take i.toNat ++ [d] ++ xs.drop i.toNat, .non) else none
  | _ => none
theorem Reps.dropLast {K : PySem.W.Frag} {ι : List Addr} {F : Hp} {ds : List D} {vs : List V} (r : Reps K ι F ds vs) : Reps K ι F ds.dropLast vs.dropLast := by
  rw [List.dropLast_eq_take, List.dropLast_eq_take, ← r.len]
  exact r.take _
section
variable {f : List D → List D → Option (List D × D)} {rr : V → List V → Hp → VK → Prop}
/-- what a method's rule must give -/
def LmOk (K : PySem.W.Frag) (f : List D → List D → Option (List D × D)) (rr : V → List V → Hp → VK → Prop) : Prop := ∀ (i : List Addr) (F H : Hp) (a : Addr) (xs ds ys : List D) (d : D) (vs us : List V) (Q : VK), H a = some (.lst vs) → Reps K i F xs vs → Reps K i F ds us → f xs ds = some (ys, d) →
  (∀ ws v, Reps K i F ys ws → Rep K i F d v → Q v (upd H a (.lst ws))) → rr (.ref a) us H Q
theorem ok_append (K : PySem.W.Frag) : LmOk K fAppend rAppend := by
  intro i F H a xs ds ys d vs us Q h1 r1 r2 hf q
  unfold fAppend at hf
  split at hf
  · rename_i d1
    split at hf
    · rename_i hl
      cases hf
      cases r2 with
      | cons h r =>
        cases r
        exact ⟨a, vs, _, rfl, rfl, h1, by rw [← r1.len]; exact hl, q _ _ (r1.append (.cons h .nil)) .non⟩
    · cases hf
  · cases hf
theorem ok_clear (K : PySem.W.Frag) : LmOk K fClear rClear := by
  intro i F H a xs ds ys d vs us Q h1 r1 r2 hf q
  unfold fClear at hf
  split at hf
  · cases hf
    cases r2
    exact ⟨a, vs, rfl, rfl, h1, q _ _ .nil .non⟩
  · cases hf
theorem ok_pop (K : PySem.W.Frag) : LmOk K fPop rPop := by
  intro i F H a xs ds ys d vs us Q h1 r1 r2 hf q
  unfold fPop at hf
  split at hf
  · split at hf
    · rename_i d1 e1
      cases hf
      cases r2
      obtain ⟨v, hv, rv⟩ := r1.get e1
      exact ⟨a, vs, v, rfl, rfl, h1, by rw [← r1.len]; exact hv, q _ _ r1.dropLast rv⟩
    · cases hf
  · cases hf
theorem ok_popAt (K : PySem.W.Frag) : LmOk K fPopAt rPopAt := by
  intro i F H a xs ds ys d vs us Q h1 r1 r2 hf q
  unfold fPopAt at hf
  split at hf
  · rename_i j
    split at hf
    · rename_i hj
      split at hf
      · rename_i k ek
        split at hf
        · rename_i d1 e1
          cases hf
          cases r2 with
          | cons h r =>
            cases r
            cases h
            obtain ⟨v, hv, rv⟩ := r1.get e1
            exact ⟨a, vs, j, k, v, rfl, rfl, h1, hj.1, hj.2, by rw [← r1.len]; exact (ixN_seq ek).1, hv, q _ _ (r1.eraseIdx k) rv⟩
        · cases hf
      · cases hf
    · cases hf
  · cases hf
theorem ok_insert (K : PySem.W.Frag) : LmOk K fInsert (fun x vs H Q => ∃ (l : Addr) (xs : List V) (i : Int) (y : V), x = .ref l ∧ vs = [.int i, y] ∧ H l = some (.lst xs) ∧ xs.length < sizeLine ∧ 0 ≤ i ∧ i < 2 ^ 63 ∧ Q .non (upd H l (.lst (xs.take i.toNat ++ [y] ++ xs.drop i.toNat)))) := by
  intro i F H a xs ds ys d vs us Q h1 r1 r2 hf q
  unfold fInsert at hf
  split at hf
  · rename_i j d1
    split at hf
    · rename_i hj
      cases hf
      cases r2 with
      | cons h r =>
        cases h
        cases r with
        | cons h r =>
          cases r
          exact ⟨a, vs, j, _, rfl, rfl, h1, by rw [← r1.len]; exact hj.2.2, hj.1, hj.2.1, q _ _ (((r1.take _).append (.cons h .nil)).append (r1.drop _)) .non⟩
    · cases hf
  · cases hf
variable {o e : Expr} {to : DE} {name : Str} {apos cpos : Pos} {id : String}
theorem lm_fin (hm : LmOk X.K f rr) {T U : Wd} {σ : L2.St} {m2 : Mu} {n : Nat} {a : Addr} {ds xs : List D} {us : List V} {Q : VK} (ha : U.i[n]? = some a) (sa2 : Sta X.K U m2) (rds : Reps X.K U.i U.F ds us)
    (q2 : PostD X.K U (match m2[n]? with
      | some (.lst xs) => match f xs ds with
        | some (ys, d) => .ok d (m2.set n (.lst ys))
        | none => .stuck
      | _ => .stuck) Q (fun c d H => Fly X c d σ H)) : rr (.ref a) us U.H Q := by
  split at q2
  · rename_i xs e1
    split at q2
    · rename_i ys d e2
      obtain ⟨vs, h1, h2⟩ := sa2.ok n a _ ha e1
      refine hm U.i U.F U.H a xs ds ys d vs us Q h1 h2 rds e2 fun ws v rw rd => ?_
      obtain ⟨st, sa⟩ := sa2.put ha (o := .lst ws) (q := .lst ys) ⟨ws, upd_same, rw⟩
      exact q2 v (U.put a (.lst ws)) st sa rd
    · exact q2.elim
  · exact q2.elim
theorem pd_lm (slot : Slot "list" name id) (hty : typeOf (.builtin id) = pure (.type "method_descriptor")) (hr : MtR X id rr) (hm : LmOk X.K f rr) (ho : PDE X o to) (ha : PDA X (e :: es) t)
    (hbase : attributeBase o name X.env (eval o X.env) = eval o X.env := by rfl)
    (hfew : ((backTo cpos (starEach (e :: es) X.env)).all (fun x => !x.1) && (backToKw cpos (keywordEach [] X.env)).all (fun x => x.1.isSome)
      && decide ((e :: es).length + ([] : List Keyword).length + (if ([] : List Keyword).isEmpty then 0 else 1) < 30)) = true := by rfl)
    (hline : (apos.endLine == cpos.line) = true := by rfl) (hs : starEach (e :: es) X.env = (false, eval e X.env) :: starEach es X.env := by exact se_cons _ _ _ rfl) (hplain : (backTo cpos (starEach es X.env)).any (·.1) = false := by rfl) :
    PDE X (.Call (.Attribute o name apos) (e :: es) [] cpos) (dLm f to t) := by
  refine pd_of (pe_bm PySem.F.plainAttrs_list slot hty hr (mxE X o) (mxA X _) hbase hfew hline hs hplain) fun S r m σ Q sa re p => ?_
  refine ho S r m σ _ sa re (Post.bindI p fun od m1 v T st sa1 rd q => ?_)
  split at q
  · rename_i n
    split at q
    · rename_i xs0 e0
      cases rd with
      | @loc _ a ha' =>
      obtain ⟨vs0, h1, h2⟩ := sa1.ok n a _ ha' e0
      refine ⟨.inl ⟨rfl, vs0, .inl (.inl h1)⟩, ?_⟩
      refine ha T r m1 σ _ sa1 (re.stp st) (Post.bindI q fun ds m2 us U st2 sa2 rds q2 => ?_)
      exact lm_fin (T := T) (xs := xs0) hm (pre_get st2.pre ha') sa2 rds q2
    · exact q.elim
  · exact q.elim
theorem pd_lm0 (slot : Slot "list" name id) (hty : typeOf (.builtin id) = pure (.type "method_descriptor")) (hr : MtR X id rr) (hm : LmOk X.K f rr) (ho : PDE X o to)
    (hbase : attributeBase o name X.env (eval o X.env) = eval o X.env := by rfl) (hline : (apos.endLine == cpos.line) = true := by rfl) :
    PDE X (.Call (.Attribute o name apos) [] [] cpos) (dLm f to dNil) := by
  refine pd_of (pe_bm0 PySem.F.plainAttrs_list slot hty hr (mxE X o) hbase hline) fun S r m σ Q sa re p => ?_
  refine ho S r m σ _ sa re (Post.bindI p fun od m1 v T st sa1 rd q => ?_)
  split at q
  · rename_i n
    split at q
    · rename_i xs0 e0
      cases rd with
      | @loc _ a ha' =>
      obtain ⟨vs0, h1, h2⟩ := sa1.ok n a _ ha' e0
      exact ⟨.inl ⟨rfl, vs0, .inl (.inl h1)⟩, lm_fin (T := T) (xs := xs0) (ds := []) hm ha' sa1 .nil q⟩
    · exact q.elim
  · exact q.elim
theorem pd_append (ho : PDE X o to) (ha : PDA X [e] t) (hbase : attributeBase o "append" X.env (eval o X.env) = eval o X.env := by rfl)
    (hfew : ((backTo cpos (starEach [e] X.env)).all (fun x => !x.1) && (backToKw cpos (keywordEach [] X.env)).all (fun x => x.1.isSome)
      && decide ([e].length + ([] : List Keyword).length + (if ([] : List Keyword).isEmpty then 0 else 1) < 30)) = true := by rfl)
    (hline : (apos.endLine == cpos.line) = true := by rfl) (hs : starEach [e] X.env = (false, eval e X.env) :: starEach [] X.env := by rfl) (hplain : (backTo cpos (starEach [] X.env)).any (·.1) = false := by rfl) :
    PDE X (.Call (.Attribute o "append" apos) [e] [] cpos) (dLm fAppend to t) := pd_lm PySem.F.slot_list_append PySem.F.type_list_append mt_append (ok_append _) ho ha hbase hfew hline hs hplain
theorem pd_popAt (ho : PDE X o to) (ha : PDA X [e] t) (hbase : attributeBase o "pop" X.env (eval o X.env) = eval o X.env := by rfl)
    (hfew : ((backTo cpos (starEach [e] X.env)).all (fun x => !x.1) && (backToKw cpos (keywordEach [] X.env)).all (fun x => x.1.isSome)
      && decide ([e].length + ([] : List Keyword).length + (if ([] : List Keyword).isEmpty then 0 else 1) < 30)) = true := by rfl)
    (hline : (apos.endLine == cpos.line) = true := by rfl) (hs : starEach [e] X.env = (false, eval e X.env) :: starEach [] X.env := by rfl) (hplain : (backTo cpos (starEach [] X.env)).any (·.1) = false := by rfl) :
    PDE X (.Call (.Attribute o "pop" apos) [e] [] cpos) (dLm fPopAt to t) := pd_lm PySem.F.slot_list_pop PySem.F.type_list_pop mt_popAt (ok_popAt _) ho ha hbase hfew hline hs hplain
theorem pd_insert {e2 : Expr} (ho : PDE X o to) (ha : PDA X [e, e2] t) (hbase : attributeBase o "insert" X.env (eval o X.env) = eval o X.env := by rfl)
    (hfew : ((backTo cpos (starEach [e, e2] X.env)).all (fun x => !x.1) && (backToKw cpos (keywordEach [] X.env)).all (fun x => x.1.isSome)
      && decide ([e, e2].length + ([] : List Keyword).length + (if ([] : List Keyword).isEmpty then 0 else 1) < 30)) = true := by rfl)
    (hline : (apos.endLine == cpos.line) = true := by rfl) (hs : starEach [e, e2] X.env = (false, eval e X.env) :: starEach [e2] X.env := by rfl) (hplain : (backTo cpos (starEach [e2] X.env)).any (·.1) = false := by rfl) :
    PDE X (.Call (.Attribute o "insert" apos) [e, e2] [] cpos) (dLm fInsert to t) := pd_lm PySem.F.slot_list_insert PySem.F.type_list_insert L2.mt_insert (ok_insert _) ho ha hbase hfew hline hs hplain
theorem pd_pop (ho : PDE X o to) (hbase : attributeBase o "pop" X.env (eval o X.env) = eval o X.env := by rfl) (hline : (apos.endLine == cpos.line) = true := by rfl) :
    PDE X (.Call (.Attribute o "pop" apos) [] [] cpos) (dLm fPop to dNil) := pd_lm0 PySem.F.slot_list_pop PySem.F.type_list_pop mt_pop (ok_pop _) ho hbase hline
theorem pd_clear (ho : PDE X o to) (hbase : attributeBase o "clear" X.env (eval o X.env) = eval o X.env := by rfl) (hline : (apos.endLine == cpos.line) = true := by rfl) :
    PDE X (.Call (.Attribute o "clear" apos) [] [] cpos) (dLm fClear to dNil) := pd_lm0 PySem.F.slot_list_clear PySem.F.type_list_clear mt_clear (ok_clear _) ho hbase hline
end
end
end DL

namespace DL
open PySem PySem.Spec PyProof.Rows L2
variable [LamTab]
/-! ### comprehensions: over lists of the store, into the store -/
/-- a hidden list becomes one of the store -/
def Wd.adopt (S : Wd) (p : Addr) : Wd := ⟨S.i ++ [p], S.F, S.H⟩
section
variable {K : PySem.W.Frag} {S T : Wd} {m : Mu}
theorem Rep.adopt {p : Addr} {d : D} {v : V} (r : Rep K S.i S.F d v) : Rep K (S.adopt p).i (S.adopt p).F d v := r.mono (List.prefix_append _ _) (Ext.refl _)
theorem Reps.adopt {p : Addr} {d : List D} {v : List V} (r : Reps K S.i S.F d v) : Reps K (S.adopt p).i (S.adopt p).F d v := r.mono (List.prefix_append _ _) (Ext.refl _)
theorem Sta.adopt (sa : Sta K S m) {p : Addr} {ds : List D} {av : List V} (h0 : S.H p = some (.lst av)) (h1 : S.F p = none) (h2 : p ∉ S.i) (r : Reps K S.i S.F ds av) : Sta K (S.adopt p) (m ++ [.lst ds]) := by
  refine ⟨?_, by show (S.i ++ [p]).length = _; simp [sa.len], sa.sub, fun a ha => ?_, fun a ha => ?_, fun n a u e1 e2 => ?_, fun q hq => ?tb⟩
  case tb =>
    obtain ⟨ps, t1, t2, t3, t4, t5⟩ := sa.tb q hq
    exact ⟨ps, t1, t2, fun z => (List.mem_append.mp (show q.1 ∈ S.i ++ [p] from z)).elim t3 (fun z => by rw [List.mem_singleton.mp z, h0] at t1; cases t1), t4, t5⟩
  · show (S.i ++ [p]).Nodup
    refine List.nodup_append.mpr ⟨sa.nd, by simp, fun a ha b hb => ?_⟩
    have : b = p := List.mem_singleton.mp hb
    subst this
    exact fun z => h2 (z ▸ ha)
  · rcases List.mem_append.mp (show a ∈ S.i ++ [p] from ha) with z | z
    · exact sa.dis a z
    · have : a = p := List.mem_singleton.mp z
      subst this; exact h1
  · rcases List.mem_append.mp (show a ∈ S.i ++ [p] from ha) with z | z
    · exact sa.tr a z
    · have : a = p := List.mem_singleton.mp z
      subst this; exact ⟨_, h0⟩
  · have e1 : (S.i ++ [p])[n]? = some a := e1
    by_cases hn : n < S.i.length
    · rw [List.getElem?_append_left hn] at e1
      rw [List.getElem?_append_left (by rw [← sa.len]; exact hn)] at e2
      have q := sa.ok n a u e1 e2
      cases u with
      | lst ds => obtain ⟨xs, q1, q2⟩ := q; exact ⟨xs, q1, q2.adopt⟩
      | ins C fs => obtain ⟨dx, vs, q1, q2⟩ := q; exact ⟨dx, vs, q1, q2.mono (List.prefix_append _ _) (Ext.refl _)⟩
      | exo C d =>
        cases d with
        | none => exact q
        | some k => obtain ⟨dx, q1, q2⟩ := q; exact ⟨dx, pre_get (List.prefix_append _ _) q1, q2⟩
      | exd fs => obtain ⟨vs, q1, q2⟩ := q; exact ⟨vs, q1, q2.mono (List.prefix_append _ _) (Ext.refl _)⟩
      | dik kvs => obtain ⟨vs, q1, q0, q2⟩ := q; exact ⟨vs, q1, q0, q2.adopt⟩
      | dit kvs => obtain ⟨vs, q1, q0, q2⟩ := q; exact ⟨vs, q1, q0, q2.adopt⟩
    · have hn' : n = S.i.length := by
        have := (List.getElem?_eq_some_iff.mp e1).1
        simp at this; omega
      subst hn'
      rw [List.getElem?_append_right (Nat.le_refl _), Nat.sub_self] at e1
      rw [sa.len, List.getElem?_append_right (Nat.le_refl _), Nat.sub_self] at e2
      simp at e1 e2
      subst e1; subst e2
      exact ⟨av, h0, r.adopt⟩
theorem Stp.adopt (st : Stp T S) {p : Addr} (h : T.H p = none) : Stp T (S.adopt p) := ⟨st.pre.trans (List.prefix_append _ _), st.ext, fun a u hn h1 h2 h3 => by
  have ne : a ≠ p := ne_of_none h1 h
  obtain ⟨k1, k2, k3⟩ := st.frame a u hn h1 h2 h3
  refine ⟨k1, k2, fun z => ?_⟩
  rcases List.mem_append.mp (show a ∈ S.i ++ [p] from z) with z | z
  · exact k3 z
  · exact ne (List.mem_singleton.mp z), st.old⟩
end
open Classical in
/-- the elements, the store being as gd says at each turn -/
noncomputable def dCompG (gd : Mu → Prop) (g : DG) (c : DT) (b : DE) (e : En) : List D → Mu → List D → Res (List D)
  | [], m, acc => if gd m then .ok acc m else .stuck
  | d :: ds, m, acc => if gd m then (match g d e with
    | none => .stuck
    | some e1 => match c e1 m with
      | .ok true m1 => match b e1 m1 with
        | .ok x m2 => if acc.length < sizeLine then dCompG gd g c b e ds m2 (acc ++ [x]) else .stuck
        | _ => .stuck
      | .ok false m1 => dCompG gd g c b e ds m1 acc
      | _ => .stuck) else .stuck
def fF : List D → Mu → Res D := fun xs m => .ok (.lst xs) m
def fM : List D → Mu → Res D := fun xs m => .ok (.loc m.length) (m ++ [.lst xs])
/-- over a frozen list or one of the store -/
noncomputable def comp1 (fin : List D → Mu → Res D) (g : DG) (c : DT) (b : DE) (e : En) (d : D) (m : Mu) : Res D := match d with
  | .lst ds => (dCompL g c b e ds m []).bind fin
  | .loc n => match m[n]? with
    | some (.lst ds) => (dCompG (fun m => m[n]? = some (.lst ds)) g c b e ds m []).bind fin
    | _ => .stuck
  | _ => .stuck
noncomputable def dCompS (fin : List D → Mu → Res D) (t : DE) (g : DG) (c : DT) (b : DE) (own : List Nat) : DE := fun e m => (t e m).bind fun d m1 => comp1 fin g c b (wipeE e own) d m1
noncomputable def dCompM (t : DA) (g : DG) (c : DT) (b : DE) (own : List Nat) : DE := fun e m => (t e m).bind fun ds m1 => (dCompL g c b (wipeE e own) ds m1 []).bind fM
theorem compG_true (g : DG) (c : DT) (b : DE) (e : En) : ∀ (ds : List D) (m : Mu) (acc : List D), dCompG (fun _ => True) g c b e ds m acc = dCompL g c b e ds m acc
  | [], m, acc => by unfold dCompG dCompL; simp
  | d :: ds, m, acc => by
    unfold dCompG dCompL
    rw [if_pos trivial]
    cases g d e with
    | none => rfl
    | some e1 =>
      dsimp only
      cases c e1 m with
      | stuck => rfl
      | exc C fs m1 => rfl
      | ok k m1 =>
        cases k with
        | false => exact compG_true g c b e ds m1 acc
        | true =>
          dsimp only
          cases b e1 m1 with
          | stuck => rfl
          | exc C fs m2 => rfl
          | ok x m2 =>
            dsimp only
            rw [compG_true g c b e ds m2 (acc ++ [x])]
def ItOkG (K : PySem.W.Frag) (gd : Mu → Prop) (T : Wd) (J : It) (ds : List D) : Prop := ∀ (U : Wd) (m : Mu) (i : Nat), Stp T U → Sta K U m → gd m →
  (∀ d, ds[i]? = some d → J.go i U.H ∧ ∀ x H', J.yld i U.H x H' → ∃ Y : Wd, Y.H = H' ∧ Stp U Y ∧ Sta K Y m ∧ Rep K Y.i Y.F d x) ∧ (ds.length ≤ i → J.stop i U.H)
def FinOk (K : PySem.W.Frag) (fin : List D → Mu → Res D) : Prop := ∀ (T U : Wd) (m : Mu) (acc : List D) (av : List V) (p : Addr) (Q : VK) (W : XK), Stp T U → Sta K U m → T.H p = none → U.H p = some (.lst av) → U.F p = none → p ∉ U.i → Reps K U.i U.F acc av → PostD K T (fin acc m) Q W → Q (.ref p) U.H
theorem fin_F (K : PySem.W.Frag) : FinOk K fF := fun T U m acc av p Q W st sa h0 h1 h2 h3 r q =>
  q (.ref p) (U.keep p (.lst av)) (st.kept h0 h2) (sa.keep h1 h2 h3 (by exact nofun)) (.lst (.inl (.inl upd_same)) (r.mono (List.prefix_refl _) (Ext.updNew h2)))
theorem fin_M (K : PySem.W.Frag) : FinOk K fM := fun T U m acc av p Q W st sa h0 h1 h2 h3 r q =>
  q (.ref p) (U.adopt p) (st.adopt h0) (sa.adopt h1 h2 h3 r) (.loc (by
    show (U.i ++ [p])[m.length]? = some p
    rw [← sa.len, List.getElem?_append_right (Nat.le_refl _), Nat.sub_self]; rfl))
section
variable {X : Cx} {elt tg iter : Expr} {ifs : List Expr} {scope : Scope} {own : List (Str × Nat)} {pos spos : Pos} {t : DA} {ta : DE} {g : DG} {c : DT} {b : DE} {sl : List Nat} {fin : List D → Mu → Res D} {gd : Mu → Prop}
theorem lc_goG {σ : L2.St} {T : Wd} {r : En} {m1 : Mu} {Q : VK} {ds : List D} {J : It}
    (hg : ∀ s H C cl fp, PDG (Bk X scope s H C cl fp) tg g sl) (ht : ∀ s H C cl fp, PDTs (Bk X scope s H C cl fp) ifs c) (he : ∀ s H C cl fp, PDE (Bk X scope s H C cl fp) elt b)
    (hsl : ∀ i ∈ sl, i ∈ own.map (·.2)) (hfin : FinOk X.K fin)
    (sa1 : Sta X.K T m1) (re : RelE X.K T r σ) (hJ : ItOkG X.K gd T J ds) (p : PostD X.K T ((dCompG gd g c b (wipeE r (own.map (·.2))) ds m1 []).bind fin) Q (fun c d H => Fly X c d σ H)) :
    ∀ Dd : Addr, T.H Dd = none → ∃ Wi : Nat → Nat → Hp → Prop, (∃ n, Wi 0 n (upd T.H Dd (.lst []))) ∧ ∀ i n H', Wi i n H' →
      (J.stop i H' ∧ Q (.ref Dd) H') ∨ (J.go i H' ∧ ∃ N : Hp → Prop, (∀ H2, N H2 → ∃ n', n' < n ∧ Wi (i + 1) n' H2) ∧
        ∀ x H2, J.yld i H' x H2 → bG X scope tg x (wipe σ (own.map (·.2))) H2 fun σ1 H3 => wipe σ1 (own.map (·.2)) = wipe σ (own.map (·.2)) ∧
          bT X scope ifs σ1 H3 fun k H4 => if k = true then bE X scope elt σ1 H4 fun y H5 => ∃ xs, H5 Dd = some (.lst xs) ∧ xs.length < sizeLine ∧ N (upd H5 Dd (.lst (xs ++ [y]))) else N H4) := by
  intro Dd hD
  have reW : RelE X.K T (wipeE r (own.map (·.2))) (wipe σ (own.map (·.2))) := re.wipe _
  have f0 := sa1.fresh hD
  refine ⟨fun i n H' => n = ds.length - i ∧ i ≤ ds.length ∧ ∃ (U : Wd) (m' : Mu) (acc : List D) (av : List V), U.H = H' ∧ Stp T U ∧ Sta X.K U m' ∧ U.H Dd = some (.lst av) ∧ U.F Dd = none ∧ Dd ∉ U.i ∧ Reps X.K U.i U.F acc av ∧
      PostD X.K T ((dCompG gd g c b (wipeE r (own.map (·.2))) (ds.drop i) m' acc).bind fin) Q (fun c d H => Fly X c d σ H),
    ⟨ds.length, by simp, Nat.zero_le _, T.put Dd (.lst []), m1, [], [], rfl, (Stp.refl T).hid hD, sa1.hid f0.1 f0.2 (by rw [hD]; exact nofun), upd_same, f0.1, f0.2, .nil, p⟩, ?_⟩
  rintro i n H' ⟨rfl, hi', U, m', acc, av, rfl, stU, saU, hU1, hU2, hU3, rA, pU⟩
  by_cases hlt : i < ds.length
  · rw [List.drop_eq_getElem_cons hlt] at pU
    unfold dCompG at pU
    split at pU
    · rename_i hgd
      have hJ1 := (hJ U m' i stU saU hgd).1 _ (List.getElem?_eq_getElem hlt)
      refine .inr ⟨hJ1.1, fun H2 => i + 1 ≤ ds.length ∧ ∃ (U : Wd) (m' : Mu) (acc : List D) (av : List V), U.H = H2 ∧ Stp T U ∧ Sta X.K U m' ∧ U.H Dd = some (.lst av) ∧ U.F Dd = none ∧ Dd ∉ U.i ∧ Reps X.K U.i U.F acc av ∧
          PostD X.K T ((dCompG gd g c b (wipeE r (own.map (·.2))) (ds.drop (i + 1)) m' acc).bind fin) Q (fun c d H => Fly X c d σ H),
          fun H2 h2 => ⟨ds.length - (i + 1), by omega, rfl, h2.1, h2.2⟩, fun x H2 hy => ?_⟩
      obtain ⟨Y, rfl, stY, saY, rdY⟩ := hJ1.2 x H2 hy
      obtain ⟨y1, y2, y3⟩ := stY.frame Dd _ (by exact nofun) hU1 hU2 hU3
      have stT := stU.trans stY
      cases qg : g ds[i] (wipeE r (own.map (·.2))) with
      | none => rw [qg] at pU; exact (show False from pU).elim
      | some e1 =>
        rw [qg] at pU
        dsimp only at pU
        intro s0 H0 C0 cl0 fp0
        refine hg s0 H0 C0 cl0 fp0 Y (wipeE r (own.map (·.2))) m' (wipe σ (own.map (·.2))) ds[i] x e1 _ saY (reW.stp stT) rdY qg ?_
        intro σ1 re1 bs
        refine ⟨?_, ?_⟩
        · rw [bs _ hsl]
          exact wipe_wipe _ _
        intro s0 H0 C0 cl0 fp0
        cases qc : c e1 m' with
        | stuck => rw [qc] at pU; exact (show False from pU).elim
        | exc C fs m2 => rw [qc] at pU; exact (show False from pU).elim
        | ok k m2 =>
          rw [qc] at pU
          refine ht s0 H0 C0 cl0 fp0 Y e1 m' σ1 _ saY re1 ?_
          rw [qc]
          intro k' Z stZ saZ hk
          cases (show k = k' from hk)
          obtain ⟨z1, z2, z3⟩ := stZ.frame Dd _ (by exact nofun) y1 y2 y3
          cases k with
          | false =>
            exact iteF ⟨hlt, Z, m2, acc, av, rfl, stT.trans stZ, saZ, z1, z2, z3, (rA.stp stY).stp stZ, pU⟩
          | true =>
            refine iteT ?_
            intro s0 H0 C0 cl0 fp0
            dsimp only at pU
            cases qb : b e1 m2 with
            | stuck => rw [qb] at pU; exact (show False from pU).elim
            | exc C fs m3 => rw [qb] at pU; exact (show False from pU).elim
            | ok dx m3 =>
              rw [qb] at pU
              refine he s0 H0 C0 cl0 fp0 Z e1 m2 σ1 _ saZ (re1.stp stZ) ?_
              rw [qb]
              intro vx V1 stV saV rx
              obtain ⟨w1, w2, w3⟩ := stV.frame Dd _ (by exact nofun) z1 z2 z3
              dsimp only at pU
              split at pU
              · rename_i hlen
                refine ⟨av, w1, by rw [← rA.len]; exact hlen, hlt, V1.put Dd (.lst (av ++ [vx])), m3, acc ++ [dx], av ++ [vx], rfl, ((stT.trans stZ).trans stV).hid hD, saV.hid w2 w3 (by rw [w1]; exact nofun), upd_same, w2, w3, ((((rA.stp stY).stp stZ).stp stV)).append (.cons rx .nil), pU⟩
              · exact (show False from pU).elim
    · exact (show False from pU).elim
  · have e : i = ds.length := by omega
    subst e
    rw [List.drop_length] at pU
    unfold dCompG at pU
    split at pU
    · rename_i hgd
      exact .inl ⟨(hJ U m' _ stU saU hgd).2 (Nat.le_refl _), hfin T U m' acc av Dd Q _ stU saU hD hU1 hU2 hU3 rA pU⟩
    · exact (show False from pU).elim
theorem lc_goS {σ : L2.St} {S : Wd} {r : En} {m : Mu} {Q : VK} (hi : PDE X iter ta)
    (hg : ∀ s H C cl fp, PDG (Bk X scope s H C cl fp) tg g sl) (ht : ∀ s H C cl fp, PDTs (Bk X scope s H C cl fp) ifs c) (he : ∀ s H C cl fp, PDE (Bk X scope s H C cl fp) elt b)
    (hsl : ∀ i ∈ sl, i ∈ own.map (·.2)) (hfin : FinOk X.K fin)
    (sa : Sta X.K S m) (re : RelE X.K S r σ) (p : PostD X.K S (dCompS fin ta g c b (own.map (·.2)) r m) Q (fun c d H => Fly X c d σ H)) :
    tLc (iList X.K (WE X iter)) (bG X scope tg) (bT X scope ifs) (bE X scope elt) (own.map (·.2)) σ S.H Q := by
  refine hi S r m σ _ sa re (Post.bindI p fun d m1 v T st sa1 rd q => ?_)
  unfold comp1 at q
  split at q
  · rename_i ds
    obtain ⟨a, xs, rfl, hr, kk⟩ := frozen sa1 rd
    refine ⟨a, rfl, ⟨xs, (kk T m1 (Stp.refl T) sa1).1⟩, ?_⟩
    rw [← compG_true] at q
    refine lc_goG hg ht he hsl hfin sa1 (re.stp st) (fun U m' i st' sa' _ => ⟨fun d hd => ?_, fun hl => ⟨xs, (kk U m' st' sa').1, by rw [← hr.len]; exact hl⟩⟩) q
    obtain ⟨v, hv, rv⟩ := (kk U m' st' sa').2.get hd
    refine ⟨⟨xs, v, (kk U m' st' sa').1, hv⟩, fun x H' hy => ⟨U, hy.1.symm, Stp.refl U, sa', ?_⟩⟩
    have := hy.2 xs (kk U m' st' sa').1
    rw [hv] at this; cases this
    exact rv
  · rename_i n
    split at q
    · rename_i ds e0
      cases rd with
      | @loc _ a ha =>
      have look : ∀ U m', Stp T U → Sta X.K U m' → m'[n]? = some (.lst ds) → ∃ xs, SqL X.K U.H a xs ∧ Reps X.K U.i U.F ds xs := fun U m' st' sa' e' => by
        obtain ⟨xs, q1, q2⟩ := sa'.ok n a _ (pre_get st'.pre ha) e'
        exact ⟨xs, .inl (.inl q1), q2⟩
      obtain ⟨xs0, k1, k2⟩ := look T m1 (Stp.refl T) sa1 e0
      refine ⟨a, rfl, ⟨xs0, k1⟩, ?_⟩
      refine lc_goG (gd := fun m => m[n]? = some (.lst ds)) hg ht he hsl hfin sa1 (re.stp st) (fun U m' i st' sa' hgd => ?_) q
      obtain ⟨xs, l1, l2⟩ := look U m' st' sa' hgd
      refine ⟨fun d hd => ?_, fun hl => ⟨xs, l1, by rw [← l2.len]; exact hl⟩⟩
      obtain ⟨v, hv, rv⟩ := l2.get hd
      refine ⟨⟨xs, v, l1, hv⟩, fun x H' hy => ⟨U, hy.1.symm, Stp.refl U, sa', ?_⟩⟩
      have := hy.2 xs l1
      rw [hv] at this; cases this
      exact rv
    · exact (show False from q).elim
  · exact (show False from q).elim
theorem lc_goM {σ : L2.St} {S : Wd} {r : En} {m : Mu} {Q : VK} (hi : PDI X tg iter t)
    (hg : ∀ s H C cl fp, PDG (Bk X scope s H C cl fp) tg g sl) (ht : ∀ s H C cl fp, PDTs (Bk X scope s H C cl fp) ifs c) (he : ∀ s H C cl fp, PDE (Bk X scope s H C cl fp) elt b)
    (hsl : ∀ i ∈ sl, i ∈ own.map (·.2))
    (sa : Sta X.K S m) (re : RelE X.K S r σ) (p : PostD X.K S (dCompM t g c b (own.map (·.2)) r m) Q (fun c d H => Fly X c d σ H)) :
    tLc (WI X tg iter) (bG X scope tg) (bT X scope ifs) (bE X scope elt) (own.map (·.2)) σ S.H Q := by
  refine hi S r m σ _ sa re ?_
  unfold dCompM at p
  cases q : t r m with
  | stuck => rw [q] at p; exact p
  | exc C fs m1 => rw [q] at p; exact p
  | ok ds m1 =>
    rw [q] at p
    intro J T st sa1 hJ
    have pT : PostD X.K T ((dCompL g c b (wipeE r (own.map (·.2))) ds m1 []).bind fM) Q (fun c d H => Fly X c d σ H) := Post.step st p
    rw [← compG_true] at pT
    exact lc_goG hg ht he hsl (fin_M X.K) sa1 (re.stp st) (fun U m' i st' sa' _ => hJ U m' i st' sa') pT
abbrev mxBG (X : Cx) (scope : Scope) (tg : Expr) : ∀ s H C cl fp, PG (Bk X scope s H C cl fp) tg (bG X scope tg) := fun s H C cl fp => ⟨fun pins s1 σ H1 v u Q I r h => h s H C cl fp pins s1 u I r⟩
abbrev mxBT (X : Cx) (scope : Scope) (ifs : List Expr) : ∀ s H C cl fp, PTs (Bk X scope s H C cl fp) ifs (bT X scope ifs) := fun s H C cl fp => ⟨fun pins s1 σ H1 Q I h => h s H C cl fp pins s1 I⟩
abbrev mxBE (X : Cx) (scope : Scope) (elt : Expr) : ∀ s H C cl fp, PE (Bk X scope s H C cl fp) elt (bE X scope elt) := fun s H C cl fp => ⟨fun pins s1 σ H1 Q I h => h s H C cl fp pins s1 I⟩
theorem pd_lcS (hi : PDE X iter ta) (hN : X.N.Nodup) (ok : BlkOk X.N X.env.scope scope own)
    (hg : ∀ s H C cl fp, PDG (Bk X scope s H C cl fp) tg g sl) (ht : ∀ s H C cl fp, PDTs (Bk X scope s H C cl fp) ifs c) (he : ∀ s H C cl fp, PDE (Bk X scope s H C cl fp) elt b) (hfin : FinOk X.K fin)
    (hc : X.calm = true) (hsl : ∀ i ∈ sl, i ∈ own.map (·.2) := by decide) (hs : ∀ x, foldedSetIterable iter X.env x = pure x := by intro _; rfl) :
    PDE X (.ListComp elt [⟨tg, iter, ifs, 0⟩] scope pos) (dCompS fin ta g c b (own.map (·.2))) :=
  pd_of (pe_lc hc hN (pi_list (mxE X iter)) ok (mxBG X scope tg) (mxBT X scope ifs) (mxBE X scope elt) hs) fun S r m σ Q sa re p => lc_goS hi hg ht he hsl hfin sa re p
theorem pd_lcM (hi : PDI X tg iter t) (hN : X.N.Nodup) (ok : BlkOk X.N X.env.scope scope own)
    (hg : ∀ s H C cl fp, PDG (Bk X scope s H C cl fp) tg g sl) (ht : ∀ s H C cl fp, PDTs (Bk X scope s H C cl fp) ifs c) (he : ∀ s H C cl fp, PDE (Bk X scope s H C cl fp) elt b)
    (hc : X.calm = true) (hsl : ∀ i ∈ sl, i ∈ own.map (·.2) := by decide) (hs : ∀ x, foldedSetIterable iter X.env x = pure x := by intro _; rfl) :
    PDE X (.ListComp elt [⟨tg, iter, ifs, 0⟩] scope pos) (dCompM t g c b (own.map (·.2))) :=
  pd_of (pe_lc hc hN (mxI X tg iter) ok (mxBG X scope tg) (mxBT X scope ifs) (mxBE X scope elt) hs) fun S r m σ Q sa re p => lc_goM hi hg ht he hsl sa re p
theorem pds_setLcS {i : Nat} {y : Str} {py : Pos} (hi : PDE X iter ta) (hN : X.N.Nodup) (ok : BlkOk X.N X.env.scope scope own)
    (hg : ∀ s H C cl fp, PDG (Bk X scope s H C cl fp) tg g sl) (ht : ∀ s H C cl fp, PDTs (Bk X scope s H C cl fp) ifs c) (he : ∀ s H C cl fp, PDE (Bk X scope s H C cl fp) elt b) (hfin : FinOk X.K fin)
    (hc : X.calm = true) (hsw : swapsWith (.ListComp elt [⟨tg, iter, ifs, 0⟩] scope pos) (some (.Name y py)) spos.line X.env = pure true) (hsl : ∀ i ∈ sl, i ∈ own.map (·.2) := by decide) (hy : X.N[i]? = some y := by rfl) (hyl : X.env.scope.names.lookup y = some .local := by rfl) (hs : ∀ x, foldedSetIterable iter X.env x = pure x := by intro _; rfl) :
    PDS X (.Assign [.Name y py] (.ListComp elt [⟨tg, iter, ifs, 0⟩] scope pos) spos) (dSet i (dCompS fin ta g c b (own.map (·.2)))) := by
  refine ps_of (ps_setLc hc hN hy hyl hsw (pi_list (mxE X iter)) ok (mxBG X scope tg) (mxBT X scope ifs) (mxBE X scope elt) hs) fun S r m σ N sa re p => ?_
  exact lc_goS hi hg ht he hsl hfin sa re (PDE.stm re p fun d m1 v T st sa1 rd q => q _ T (Stp.refl T) sa1 ((re.stp st).set i rd))
theorem pds_setLcM {i : Nat} {y : Str} {py : Pos} (hi : PDI X tg iter t) (hN : X.N.Nodup) (ok : BlkOk X.N X.env.scope scope own)
    (hg : ∀ s H C cl fp, PDG (Bk X scope s H C cl fp) tg g sl) (ht : ∀ s H C cl fp, PDTs (Bk X scope s H C cl fp) ifs c) (he : ∀ s H C cl fp, PDE (Bk X scope s H C cl fp) elt b)
    (hc : X.calm = true) (hsw : swapsWith (.ListComp elt [⟨tg, iter, ifs, 0⟩] scope pos) (some (.Name y py)) spos.line X.env = pure true) (hsl : ∀ i ∈ sl, i ∈ own.map (·.2) := by decide) (hy : X.N[i]? = some y := by rfl) (hyl : X.env.scope.names.lookup y = some .local := by rfl) (hs : ∀ x, foldedSetIterable iter X.env x = pure x := by intro _; rfl) :
    PDS X (.Assign [.Name y py] (.ListComp elt [⟨tg, iter, ifs, 0⟩] scope pos) spos) (dSet i (dCompM t g c b (own.map (·.2)))) := by
  refine ps_of (ps_setLc hc hN hy hyl hsw (mxI X tg iter) ok (mxBG X scope tg) (mxBT X scope ifs) (mxBE X scope elt) hs) fun S r m σ N sa re p => ?_
  exact lc_goM hi hg ht he hsl sa re (PDE.stm re p fun d m1 v T st sa1 rd q => q _ T (Stp.refl T) sa1 ((re.stp st).set i rd))
end
end DL
namespace DL
open PySem PySem.Spec PyProof.Rows L2
variable [LamTab]
section
variable {X : Cx} {a : Expr} {ta : DE} {pos : Pos} {k : Nat}
def dNotO (rows : List (Kl × DFn)) (t : DE) : DE := fun e m => (dTrO rows t e m).bind fun b m => .ok (.bl !b) m
theorem pd_notO {rows : List (Kl × DFn)} (ha : PDE X a ta) (hrows : ∀ r ∈ rows, MRow X.prog X.w X.K X.mg X.base k "__bool__" r.1 r.2) (hr : Room k X.A) : PDE X (.UnaryOp .Not a pos) (dNotO rows ta) := by
  intro S r m σ Q sa re p pins s I
  unfold dNotO dTrO at p
  have p : PostD X.K S ((ta r m).bind fun d m => ((match dTru m d with
  | some b => .ok b m
  | none => match insOf m d with
    | some (C, ns, _) => match methAt rows C ns with
      | some G => (G [d] m).bind fun r m => match r with
        | .bl b => .ok b m
        | _ => .stuck
      | none => .stuck
    | none => .stuck) : Res Bool).bind fun b m => .ok (.bl !b) m) Q (fun c d H => Fly X c d σ H) := by
    cases h : ta r m with
    | stuck => rw [h] at p; exact p
    | exc C fs m1 => rw [h] at p; exact p
    | ok d m1 => rw [h] at p; exact p
  refine UnaryOp_ (thn (ha.run sa re p I) ?_)
  rintro u s1 ⟨x, d, m1, T, st, sa1, rd, rx, I1, q⟩
  split at q
  · rename_i b e
    exact not_of (tru_ok pins s1 σ T.H x u (fun b H => Q (.bl !b) H) I1 rx ⟨b, dTru_ok sa1 rd e, Post.ok q (Stp.refl T) sa1 (.bl _)⟩ |> fun h => thn h fun b s2 ⟨H2, I2, q2⟩ => ⟨.bl !b, H2, I2, rfl, q2⟩)
  · split at q
    · rename_i C ns ds ei
      split at q
      · rename_i G eG
        obtain ⟨c, ok, rfl, rfl⟩ := methAt_ok (P := MRow X.prog X.w X.K X.mg X.base k "__bool__") hrows eG
        obtain ⟨a, dx, vs, rfl, h1, h2, h3⟩ := insOf_ok sa1 rd ei
        obtain ⟨f, fd, ps, dds, G0, hf1, hf2, hk, hf, hb, rfl⟩ := ok.ex
        obtain rfl : u = Value.ref a := rx
        obtain ⟨od1, J1⟩ := Inv.inst I1 h1
        obtain ⟨mm, F⟩ := I1.fr
        have q : PostD X.K T ((padF ps.length dds G0 [d] m1).bind fun r m => ((match r with
          | .bl b => .ok b m
          | _ => .stuck : Res Bool)).bind fun b m => .ok (.bl !b) m) Q (fun c d H => Fly X c d σ H) := by
          cases h : padF ps.length dds G0 [d] m1 with
          | stuck => rw [h] at q; exact q
          | exc C fs m1 => rw [h] at q; exact q
          | ok d m1 => rw [h] at q; exact q
        refine not_of (PySem.W.truthy_K F I1.ok.mod.kin J1 hf1 hf2 (thn (run_fnA (us := [.ref a]) hf hr hb rfl I1 sa1 (.cons rd .nil) (.cons rfl .nil) (Post.bindI q fun r m2 v U st2 sa2 rv q2 => ?_)) fun v s2 h => boolBack (pins := pins) (σ := σ) h))
        cases rv with
        | bl b => exact ⟨b, rfl, fun s I => ⟨.bl !b, U.H, I, rfl, Post.ok q2 (Stp.refl U) sa2 (.bl _)⟩⟩
        | _ => exact (show False from q2).elim
      · exact (show False from q).elim
    · exact (show False from q).elim
end
end DL
namespace DL
open PySem PySem.Spec PyProof.Rows L2
variable [LamTab]
section
variable {X : Cx} {es : List Expr} {pos : Pos}
/-- a, b = a list -/
def dLstG (n : Nat) (g : List D → En → Option En) : DG := fun d e => match d with
  | .lst ds => if ds.length = n then g ds e else none
  | _ => none
@[simp ↓] theorem dLstG_ap (n : Nat) (g : List D → En → Option En) (d : D) (e : En) : dLstG n g d e = match d with
  | .lst ds => if ds.length = n then g ds e else none
  | _ => none := rfl
theorem pdg_lst {n k : Nat} {g : List D → En → Option En} {sl : List Nat} (hc : X.calm = true) (h : PDGs X es g sl) (hn : (assignEach es X.env).length = n := by rfl) (hst : (assignEach es X.env).findIdx? (·.1) = none := by rfl) : PDG X (.Tuple es k pos) (dLstG n g) sl := by
  intro S e m σ d v e1 Q sa re rd hh q pins s u I r
  cases rd with
  | lst h1 h2 =>
    unfold dLstG at hh
    dsimp only at hh
    split at hh
    · rename_i hl
      exact (pg_unl hc (mxGs X es) hn hst).run pins s σ S.H _ u Q I r ⟨_, _, rfl, SqL.ext' h1 sa.sub, by rw [← h2.len]; exact hl, h S e m σ _ _ e1 Q sa re h2 hh q⟩
    · cases hh
  | _ => cases hh
end
end DL
/-! ### equations for simp -/
namespace DL
open PySem PySem.Spec PyProof.Rows L2
variable [LamTab]
@[simp ↓] theorem dTrO_ap (rows : List (Kl × DFn)) (t : DE) (e : En) (m : Mu) : dTrO rows t e m = (t e m).bind fun d m => match dTru m d with
  | some b => .ok b m
  | none => match insOf m d with
    | some (C, ns, _) => match methAt rows C ns with
      | some G => (G [d] m).bind fun r m => match r with
        | .bl b => .ok b m
        | _ => .stuck
      | none => .stuck
    | none => .stuck := rfl
@[simp ↓] theorem dNotO_ap (rows : List (Kl × DFn)) (t : DE) (e : En) (m : Mu) : dNotO rows t e m = (dTrO rows t e m).bind fun b m => .ok (.bl !b) m := rfl
@[simp] theorem gCat_ap (x y : D) (m : Mu) : gCat x y m = match seqL m x, seqL m y with
  | some xs, some ys => if xs.length + ys.length ≤ sizeLine then .ok (.lst (xs ++ ys)) m else .stuck
  | _, _ => .stuck := rfl
@[simp] theorem gCatM_ap (x y : D) (m : Mu) : gCatM x y m = match seqL m x, seqL m y with
  | some xs, some ys => if xs.length + ys.length ≤ sizeLine then .ok (.loc m.length) (m ++ [.lst (xs ++ ys)]) else .stuck
  | _, _ => .stuck := rfl
@[simp] theorem seqL_loc (m : Mu) (n : Nat) : seqL m (.loc n) = match m[n]? with
  | some (.lst ds) => some ds
  | _ => none := rfl
@[simp] theorem eqRow_nil (C : Addr) (ns : List Str) : eqRow [] C ns = none := rfl
@[simp] theorem eqRow_cons (c : Kl) (G : DFn × List Tg) (rest : List (Kl × DFn × List Tg)) (C : Addr) (ns : List Str) : eqRow ((c, G) :: rest) C ns = if C = c.a ∧ ns = c.ns then some G else eqRow rest C ns := rfl
@[simp ↓] theorem dMethK_ap (rows : List (Kl × DFn)) (n nk : Nat) (to : DE) (t u : DA) (e : En) (m : Mu) : dMethK rows n nk to t u e m = (to e m).bind fun o m1 => match insOf m1 o with
  | some (C, ns, _) => match methAt rows C ns with
    | some G => (t e m1).bind fun ds m2 => (u e m2).bind fun zs m3 => if ds.length = n ∧ zs.length = nk then G (o :: (ds ++ zs)) m3 else .stuck
    | none => .stuck
  | none => .stuck := rfl
@[simp] theorem dOwnEq_ap (neg : Bool) (rows : List (Kl × DFn × List Tg)) (x y : D) (m : Mu) : dOwnEq neg rows x y m = match insOf m x with
  | some (C, ns, _) => match eqRow rows C ns, tagOf m y with
    | some (G, ts), some t => if t ∈ ts then ((G [x, y] m).bind fun r m1 => match r with
        | .bl b => .ok (.bl (neg ^^ b)) m1
        | _ => .stuck) else .stuck
    | _, _ => .stuck
  | none => .stuck := rfl
@[simp] theorem dOwnIn_ap (neg : Bool) (rows : List (Kl × DFn)) (x y : D) (m : Mu) : dOwnIn neg rows x y m = match insOf m y with
  | some (C, ns, _) => match methAt rows C ns with
    | some G => (G [y, x] m).bind fun r m1 => match r with
      | .bl b => .ok (.bl (neg ^^ b)) m1
      | _ => .stuck
    | _ => .stuck
  | none => .stuck := rfl
@[simp] theorem dOwnStr_ap (rows : List (Kl × DFn)) (x : D) (m : Mu) : dOwnStr rows [x] m = match insOf m x with
  | some (C, ns, _) => match methAt rows C ns with
    | some G => (G [x] m).bind fun r m1 => match r with
      | .str z => .ok (.str z) m1
      | _ => .stuck
    | none => .stuck
  | none => .stuck := rfl
@[simp ↓] theorem dFmt_ap (rows : List (Kl × DFn)) (t : DE) (e : En) (m : Mu) : dFmt rows t e m = (t e m).bind fun d m1 => match d with
  | .str y => if y.length ≤ sizeLine then .ok (.str y) m1 else .stuck
  | .int i => if i.natAbs.log2 < 1920 then .ok (.str (toString i)) m1 else .stuck
  | d => dOwnStr rows [d] m1 := rfl
@[simp ↓] theorem dJs_nil (acc : Str) (e : En) (m : Mu) : dJs [] acc e m = .ok (.str acc) m := rfl
@[simp ↓] theorem dJs_cons (t : DE) (ts : List DE) (acc : Str) (e : En) (m : Mu) : dJs (t :: ts) acc e m = (t e m).bind fun d m1 => match d with
  | .str y => if (acc ++ y).length ≤ sizeLine then dJs ts (acc ++ y) e m1 else .stuck
  | _ => .stuck := rfl
@[simp ↓] theorem dForS_ap (t : DE) (g : DG) (b : DS) (e : En) (m : Mu) : dForS t g b e m = rsOf e (t e m) fun d m1 => forS1 g b d e m1 := rfl
@[simp ↓] theorem dCompS_ap (fin : List D → Mu → Res D) (t : DE) (g : DG) (c : DT) (b : DE) (own : List Nat) (e : En) (m : Mu) : dCompS fin t g c b own e m = (t e m).bind fun d m1 => comp1 fin g c b (wipeE e own) d m1 := rfl
@[simp ↓] theorem dCompM_ap (t : DA) (g : DG) (c : DT) (b : DE) (own : List Nat) (e : En) (m : Mu) : dCompM t g c b own e m = (t e m).bind fun ds m1 => (dCompL g c b (wipeE e own) ds m1 []).bind fM := rfl
@[simp] theorem fF_ap (xs : List D) (m : Mu) : fF xs m = .ok (.lst xs) m := rfl
@[simp] theorem fM_ap (xs : List D) (m : Mu) : fM xs m = .ok (.loc m.length) (m ++ [.lst xs]) := rfl
@[simp] theorem comp1_lst (fin : List D → Mu → Res D) (g : DG) (c : DT) (b : DE) (e : En) (ds : List D) (m : Mu) : comp1 fin g c b e (.lst ds) m = (dCompL g c b e ds m []).bind fin := rfl
@[simp ↓] theorem dLm_ap (f : List D → List D → Option (List D × D)) (to : DE) (t : DA) (e : En) (m : Mu) : dLm f to t e m = (to e m).bind fun o m1 => match o with
  | .loc n => match m1[n]? with
    | some (.lst _) => (t e m1).bind fun ds m2 => match m2[n]? with
      | some (.lst xs) => match f xs ds with
        | some (ys, d) => .ok d (m2.set n (.lst ys))
        | none => .stuck
      | _ => .stuck
    | _ => .stuck
  | _ => .stuck := rfl
@[simp] theorem fAppend_ap (xs : List D) (d : D) : fAppend xs [d] = if xs.length < sizeLine then some (xs ++ [d], .non) else none := rfl
@[simp] theorem fClear_ap (xs : List D) : fClear xs [] = some ([], .non) := rfl
@[simp ↓] theorem dCompL_cons (g : DG) (c : DT) (b : DE) (e : En) (d : D) (ds : List D) (m : Mu) (acc : List D) : dCompL g c b e (d :: ds) m acc = match g d e with
    | none => .stuck
    | some e1 => match c e1 m with
      | .ok true m1 => match b e1 m1 with
        | .ok x m2 => if acc.length < sizeLine then dCompL g c b e ds m2 (acc ++ [x]) else .stuck
        | _ => .stuck
      | .ok false m1 => dCompL g c b e ds m1 acc
      | _ => .stuck := rfl
end DL

namespace DL
open PySem PySem.Spec PyProof.Rows L2
variable [LamTab]
section
variable {X : Cx} {e o : Expr} {es : List Expr} {t : DA} {pos p : Pos} {x : Str} {k : Nat} {C : Addr} {G : DFn}
/-! ### C(a, k=b) -/
structure KTK (P : Program) (w : World) (K : PySem.W.Frag) (mg : Str → Option Value) (base : Heap) (k : Nat) (x : Str) (n : Nat) (ks : List Str) (C : Addr) (G : DFn) : Prop where
  mgx : mg x = some (.ref C)
  ex : ∃ (f : Addr) (fd : FuncData) (ps : List Str) (pl : List Nat) (dds : List D) (G0 : DFn), Mk K C f ∧ FnD P w K mg base k f fd ps G0 ∧ BK K fd ps (n + 1) ks pl dds ∧ G = fun ds m => match pick pl (ds ++ dds) with
    | some xs => G0 xs m
    | none => .stuck
theorem run_mkK {n : Nat} {ks : List Str} {pins : List (Addr × Obj)} {σ : L2.St} {T : Wd} {m : Mu} {s : Shared} {Q : VK} {us ws : List Value} {vs zs : List V} {das dzs : List D} (F : KTK X.prog X.w X.K X.mg X.base k x n ks C G) (hr : Room (k + 1) X.A)
    (I : Inv X pins σ T.H s) (sa : Sta X.K T m) (r : Reps X.K T.i T.F das vs) (rz : Reps X.K T.i T.F dzs zs) (rv : Vals vs us) (rw : Vals zs ws) (hn : das.length = n) (hk : dzs.length = ks.length) (h : PostD X.K T (mkObj C m (G (.loc m.length :: (das ++ dzs)) (m ++ [.ins C []]))) Q (fun c d H => Fly X c d σ H)) :
    wpAny (model X.prog X.w) X.A (call (.ref C) us (ks.zip ws)) (EP X pins σ Q) X.xe s := by
  obtain ⟨f, fd, ps, pl, dds, G0, M, hf, hb, rfl⟩ := F.ex
  obtain ⟨dsv, dvs, hd1, hD, hB⟩ := hb.ex
  have nx : T.H (s.heap.objs.size + 1) = none := I.hok.fresh (Nat.le_succ _)
  have ndx : T.H s.heap.objs.size = none := I.hok.fresh (Nat.le_refl _)
  have ne : s.heap.objs.size ≠ s.heap.objs.size + 1 := Nat.ne_of_lt (Nat.lt_succ_self _)
  have I2 := Inv.made (C := C) I
  have st1 := Stp.new sa (o := .own (s.heap.objs.size + 1)) ndx
  have sa1 := sa.new (o := .own (s.heap.objs.size + 1)) ndx
  have nx1 : (T.new s.heap.objs.size (.own (s.heap.objs.size + 1))).H (s.heap.objs.size + 1) = none := by
    show upd T.H _ _ _ = none
    rw [upd_ne ne.symm]; exact nx
  have st2 := Stp.tok sa1 (o := .ins C s.heap.objs.size []) nx1
  have sa2 := sa1.tok (o := .ins C s.heap.objs.size []) nx1 (q := .ins C []) ⟨s.heap.objs.size, [], upd_same, .nil⟩
  have st12 := st1.trans st2
  generalize hT2 : (T.new s.heap.objs.size (.own (s.heap.objs.size + 1))).tok (s.heap.objs.size + 1) (.ins C s.heap.objs.size []) = T2 at st2 sa2 st12
  have hH2 : T2.H = upd (upd T.H s.heap.objs.size (.own (s.heap.objs.size + 1))) (s.heap.objs.size + 1) (.ins C s.heap.objs.size []) := by rw [← hT2]; rfl
  have hi2 : T2.i = T.i ++ [s.heap.objs.size + 1] := by rw [← hT2]; rfl
  have hloc : T2.i[m.length]? = some (s.heap.objs.size + 1) := by
    rw [hi2, ← sa.len, List.getElem?_append_right (Nat.le_refl _), Nat.sub_self]; rfl
  have r1 : Reps X.K T2.i T2.F ((.loc m.length :: (das ++ dzs)) ++ dds) ((V.ref (s.heap.objs.size + 1) :: vs ++ zs) ++ dvs) := (Reps.cons (.loc hloc) ((r.stp st12).append (rz.stp st12))).append (hD _ _)
  have r2 : Vals ((V.ref (s.heap.objs.size + 1) :: vs ++ zs) ++ dvs) ((Value.ref (s.heap.objs.size + 1) :: us ++ ws) ++ dsv) := (Vals.append (xs := V.ref (s.heap.objs.size + 1) :: vs) (us := Value.ref (s.heap.objs.size + 1) :: us) (.cons (show RelV (V.ref (s.heap.objs.size + 1)) (Value.ref (s.heap.objs.size + 1)) from rfl) rv) rw).append hd1
  dsimp only at h
  cases hp : pick pl (D.loc m.length :: (das ++ dzs) ++ dds) with
  | none => rw [hp] at h; exact (show False from h).elim
  | some xs =>
    rw [hp] at h
    have h : PostD X.K T (mkObj C m (G0 xs (m ++ [.ins C []]))) Q (fun c d H => Fly X c d σ H) := h
    have l1 : (Value.ref (s.heap.objs.size + 1) :: us).length = n + 1 := by rw [List.length_cons, ← rv.length, ← r.len, hn]
    have l2 : ws.length = ks.length := by rw [← rw.length, ← rz.len]; exact hk
    rw [← hH2] at I2
    obtain ⟨b1, b2⟩ := hB _ (Value.ref (s.heap.objs.size + 1) :: us) ws I2.kIn l1 l2
    have rp := pick_reps r1 hp
    have vp := vals_pick r2 pl
    have hlv : (pl.filterMap fun i => ((V.ref (s.heap.objs.size + 1) :: vs ++ zs) ++ dvs)[i]?).length = ps.length := by rw [vp.length]; exact b2
    have hsp : spD X.K ps.length G0 (pl.filterMap fun i => ((V.ref (s.heap.objs.size + 1) :: vs ++ zs) ++ dvs)[i]?) T2.H (fun v H2 => v = .non ∧ Q (.ref (s.heap.objs.size + 1)) H2) (fun c d H => Fly X c d σ H) := by
      refine ⟨hlv, T2, m ++ [.ins C []], _, rfl, sa2, rp, ?_⟩
      cases hG : G0 xs (m ++ [.ins C []]) with
      | stuck => rw [hG] at h; exact (show False from h).elim
      | exc C' fs m2 =>
        rw [hG] at h
        exact fun dd vs' Z stZ hn saZ h1 h2 => h dd vs' Z (st12.trans stZ) (st12.old dd hn) saZ h1 h2
      | ok dv m2 =>
        rw [hG] at h
        intro v Z stZ saZ rdv
        unfold mkObj at h
        split at h
        · rename_i heq
          cases heq
          cases rdv
          refine ⟨rfl, ?_⟩
          split at h
          · rename_i C' fs e1
            split at h
            · rename_i hc
              obtain ⟨rfl, hm2, hcl, hbel⟩ := hc
              have hzi := pre_get stZ.pre hloc
              obtain ⟨dx, vv, q1, q2⟩ := saZ.ok _ _ _ hzi e1
              have htk : m2.take m.length = m := by rw [hm2]; simp
              have stTZ := st12.trans stZ
              obtain ⟨c1, c2⟩ := cut_ok sa stTZ saZ (by rw [htk]; exact hcl)
              rw [htk] at c2
              have hbel' : belows T.i.length (fs.map (·.2)) = true := by rw [sa.len]; exact hbel
              refine h (.ref (s.heap.objs.size + 1)) (Z.cut T.i) c1 c2 (.obj (dx := dx) (vs := vv) ?_ q2.split.1 (q2.split.2.cut saZ stTZ.pre hbel'))
              rw [cut_at sa stTZ saZ (Nat.le_refl _) hzi]
              exact q1
            · exact h.elim
          · exact h.elim
        · rename_i heq; cases heq
        · exact h.elim
    refine wpAny_call (make_map (f := f) I.kIn M.makes M.init (beq_iff_eq.mp M.fn) (codeAny_mono (hf.run _ X.stack _ _ ⟨Value.ref (s.heap.objs.size + 1) :: us, ks.zip ws⟩ _ _ _ _ (hr.make C us (ks.zip ws))
      (I2.env0.make C us (ks.zip ws)) b1 vp hsp) fun r s' hq' => ?_))
    cases r with
    | error e =>
      obtain ⟨a, B, sI, pins', σ', H', cls, d, e1, I', nb, up, sky, na, os, ag, e2, fl⟩ := XE.of_call I2 (W := fun c d σ' H => σ' = σ ∧ Fly X c d σ H) (fun cls d H' h => ⟨rfl, h⟩) hq'
      exact fl e s' ⟨a, B, sI, pins', σ', H', cls, d, e1, I', nb, up, sky, na, os, ag, rfl, rfl, e2, rfl⟩
    | ok fl =>
      cases fl with
      | ret u =>
        obtain ⟨v, H', I3, rv3, ev, q3⟩ := I2.after hq'
        subst ev
        exact ⟨rv3, ⟨V.ref (s.heap.objs.size + 1), H', I3, rfl, q3⟩⟩
      | next => exact False.elim hq'
      | brk => exact False.elim hq'
      | cont => exact False.elim hq'
noncomputable def dMakeK (C : Addr) (G : DFn) (n nk : Nat) (t u : DA) : DE := fun e m => (t e m).bind fun ds m1 => (u e m1).bind fun zs m2 => if ds.length = n ∧ zs.length = nk then mkObj C m2 (G (.loc m2.length :: (ds ++ zs)) (m2 ++ [.ins C []])) else .stuck
@[simp ↓] theorem dMakeK_ap (C : Addr) (G : DFn) (n nk : Nat) (t u : DA) (e : En) (m : Mu) : dMakeK C G n nk t u e m = (t e m).bind fun ds m1 => (u e m1).bind fun zs m2 => if ds.length = n ∧ zs.length = nk then mkObj C m2 (G (.loc m2.length :: (ds ++ zs)) (m2 ++ [.ins C []])) else .stuck := rfl
theorem pd_makeK {n : Nat} {ks : List Str} {kws : List Keyword} {tk : DA} (F : KTK X.prog X.w X.K X.mg X.base k x n ks C G) (hr : Room (k + 1) X.A) (ha : PDA X (e :: es) t) (hkw : PDK X kws tk)
    (hks : (backToKw pos (keywordEach kws X.env)).filterMap (·.1) = ks := by rfl) (hall : (backToKw pos (keywordEach kws X.env)).all (·.1.isSome) = true := by rfl)
    (hg : Gl X x := by rfl) (hdb : (x == ("__debug__" : Str)) = false := by decide) (he : starEach (e :: es) X.env = (false, eval e X.env) :: starEach es X.env := by exact se_cons _ _ _ rfl)
    (hpl : ((backTo pos (starEach (e :: es) X.env)).any (·.1) || (backToKw pos (keywordEach kws X.env)).any (·.1.isNone)) = false := by rfl) :
    PDE X (.Call (.Name x p) (e :: es) kws pos) (dMakeK C G n ks.length t tk) := by
  intro S r m σ Q sa re q pins s I
  refine wpAny_Call_Name_kw (ld_glob I hg F.mgx ?_ hdb)
  obtain ⟨_, _, _, _, _, _, M, _⟩ := F.ex
  refine PySem.W.callWith_KW (h₀ := X.base) I.ok.mod.kin M.kp hall (thn (ha.run sa re q I pos) ?_) hpl he
  rintro us s1 ⟨xs, das, m1, T, st, sa1, rds, rv, I1, q1⟩
  refine thn (hkw.run sa1 (re.stp st) q1 I1 pos) ?_
  rintro ws s2 ⟨zs, dzs, m2, U, st2, sa2, rdz, rz, I2, q2⟩
  refine ⟨I2.kIn, ?_⟩
  rw [hks]
  split at q2
  · rename_i hl
    exact run_mkK F hr I2 sa2 (rds.stp st2) rdz rv rz hl.1 hl.2 q2
  · exact q2.elim
theorem pd_makeK0 {ks : List Str} {kws : List Keyword} {tk : DA} (F : KTK X.prog X.w X.K X.mg X.base k x 0 ks C G) (hr : Room (k + 1) X.A) (hkw : PDK X kws tk)
    (hks : (backToKw pos (keywordEach kws X.env)).filterMap (·.1) = ks := by rfl) (hall : (backToKw pos (keywordEach kws X.env)).all (·.1.isSome) = true := by rfl)
    (hg : Gl X x := by rfl) (hdb : (x == ("__debug__" : Str)) = false := by decide)
    (hpl : ((backTo pos (starEach [] X.env)).any (·.1) || (backToKw pos (keywordEach kws X.env)).any (·.1.isNone)) = false := by rfl) :
    PDE X (.Call (.Name x p) [] kws pos) (dMakeK C G 0 ks.length dNil tk) := by
  intro S r m σ Q sa re q pins s I
  refine wpAny_Call_Name_kw (ld_glob I hg F.mgx ?_ hdb)
  obtain ⟨_, _, _, _, _, _, M, _⟩ := F.ex
  refine PySem.W.callWith_KW0 (first := []) (h₀ := X.base) I.ok.mod.kin M.kp hall (thn (hkw.run sa re (f := fun zs m3 => if ([] : List D).length = 0 ∧ zs.length = ks.length then _ else .stuck) q I pos) ?_) hpl
  rintro ws s2 ⟨zs, dzs, m2, U, st2, sa2, rdz, rz, I2, q2⟩
  refine ⟨I2.kIn, ?_⟩
  rw [hks]
  split at q2
  · rename_i hl
    exact run_mkK (us := []) (vs := []) (das := []) F hr I2 sa2 .nil rdz .nil rz rfl hl.2 q2
  · exact q2.elim
/-! ### min and max of a list of ints -/
theorem foldl_min_le : ∀ (xs : List Int) (a : Int), xs.foldl min a ≤ a ∧ (∀ y ∈ xs, xs.foldl min a ≤ y) ∧ (xs.foldl min a = a ∨ xs.foldl min a ∈ xs)
  | [], a => ⟨Int.le_refl _, fun _ h => (nomatch h), .inl rfl⟩
  | x :: xs, a => by
    obtain ⟨h1, h2, h3⟩ := foldl_min_le xs (min a x)
    refine ⟨by simp only [List.foldl_cons]; omega, fun y hy => ?_, ?_⟩
    · simp only [List.foldl_cons]
      rcases List.mem_cons.mp hy with e | e
      · subst e; omega
      · exact h2 y e
    · simp only [List.foldl_cons]
      rcases h3 with h3 | h3
      · rw [h3]
        by_cases z : a ≤ x
        · exact .inl (by omega)
        · exact .inr (by rw [show min a x = x by omega]; exact List.mem_cons_self)
      · exact .inr (List.mem_cons_of_mem _ h3)
theorem foldl_max_ge : ∀ (xs : List Int) (a : Int), a ≤ xs.foldl max a ∧ (∀ y ∈ xs, y ≤ xs.foldl max a) ∧ (xs.foldl max a = a ∨ xs.foldl max a ∈ xs)
  | [], a => ⟨Int.le_refl _, fun _ h => (nomatch h), .inl rfl⟩
  | x :: xs, a => by
    obtain ⟨h1, h2, h3⟩ := foldl_max_ge xs (max a x)
    refine ⟨by simp only [List.foldl_cons]; omega, fun y hy => ?_, ?_⟩
    · simp only [List.foldl_cons]
      rcases List.mem_cons.mp hy with e | e
      · subst e; omega
      · exact h2 y e
    · simp only [List.foldl_cons]
      rcases h3 with h3 | h3
      · rw [h3]
        by_cases z : x ≤ a
        · exact .inl (by omega)
        · exact .inr (by rw [show max a x = x by omega]; exact List.mem_cons_self)
      · exact .inr (List.mem_cons_of_mem _ h3)
theorem minI_ok : ∀ {ns : List Int}, 0 < ns.length → minI ns ∈ ns ∧ ∀ y ∈ ns, minI ns ≤ y
  | x :: xs, _ => by
    obtain ⟨h1, h2, h3⟩ := foldl_min_le xs x
    refine ⟨?_, fun y hy => ?_⟩
    · rcases h3 with h3 | h3
      · exact List.mem_cons.mpr (.inl h3)
      · exact List.mem_cons_of_mem _ h3
    · rcases List.mem_cons.mp hy with e | e
      · subst e; exact h1
      · exact h2 y e
theorem maxI_ok : ∀ {ns : List Int}, 0 < ns.length → maxI ns ∈ ns ∧ ∀ y ∈ ns, y ≤ maxI ns
  | x :: xs, _ => by
    obtain ⟨h1, h2, h3⟩ := foldl_max_ge xs x
    refine ⟨?_, fun y hy => ?_⟩
    · rcases h3 with h3 | h3
      · exact List.mem_cons.mpr (.inl h3)
      · exact List.mem_cons_of_mem _ h3
    · rcases List.mem_cons.mp hy with e | e
      · subst e; exact h1
      · exact h2 y e
def gMinL : DFn := fun ds m => match ds with
  | [d] => match (seqL m d).bind toIs with
    | some (n :: ns) => .ok (.int (minI (n :: ns))) m
    | _ => .stuck
  | _ => .stuck
def gMaxL : DFn := fun ds m => match ds with
  | [d] => match (seqL m d).bind toIs with
    | some (n :: ns) => .ok (.int (maxI (n :: ns))) m
    | _ => .stuck
  | _ => .stuck
@[simp] theorem gMinL_ap (d : D) (m : Mu) : gMinL [d] m = match (seqL m d).bind toIs with
    | some (n :: ns) => .ok (.int (minI (n :: ns))) m
    | _ => .stuck := rfl
@[simp] theorem gMaxL_ap (d : D) (m : Mu) : gMaxL [d] m = match (seqL m d).bind toIs with
    | some (n :: ns) => .ok (.int (maxI (n :: ns))) m
    | _ => .stuck := rfl
theorem oc_minL (hc : X.calm = true) : OC X (.builtin "min") gMinL := by
  refine oc_of (cr_min hc) fun S m ds xs Q W sa rs p => ?_
  unfold gMinL at p
  split at p
  · rename_i d
    cases q : seqL m d with
    | none => rw [q] at p; exact (show False from p).elim
    | some es =>
      rw [q] at p
      cases q2 : toIs es with
      | none => rw [show (some es).bind toIs = toIs es from rfl, q2] at p; exact (show False from p).elim
      | some bs =>
        rw [show (some es).bind toIs = toIs es from rfl, q2] at p
        obtain ⟨v, rfl, r⟩ := reps1 rs
        obtain ⟨a, ys, rfl, h1, h2⟩ := seqL_ok sa r q
        have := toIs_ok h2 q2
        subst this
        cases bs with
        | nil => exact (show False from p).elim
        | cons n ns =>
          have hl : 0 < (n :: ns).length := Nat.succ_pos _
          refine ⟨a, n :: ns, rfl, h1, hl, fun m' hm hle => ?_⟩
          obtain ⟨k1, k2⟩ := minI_ok hl
          have : m' = minI (n :: ns) := by have := hle _ k1; have := k2 _ hm; omega
          subst this
          exact Post.ok p (Stp.refl S) sa (.int _)
  · exact p.elim
theorem oc_maxL (hc : X.calm = true) : OC X (.builtin "max") gMaxL := by
  refine oc_of (cr_max hc) fun S m ds xs Q W sa rs p => ?_
  unfold gMaxL at p
  split at p
  · rename_i d
    cases q : seqL m d with
    | none => rw [q] at p; exact (show False from p).elim
    | some es =>
      rw [q] at p
      cases q2 : toIs es with
      | none => rw [show (some es).bind toIs = toIs es from rfl, q2] at p; exact (show False from p).elim
      | some bs =>
        rw [show (some es).bind toIs = toIs es from rfl, q2] at p
        obtain ⟨v, rfl, r⟩ := reps1 rs
        obtain ⟨a, ys, rfl, h1, h2⟩ := seqL_ok sa r q
        have := toIs_ok h2 q2
        subst this
        cases bs with
        | nil => exact (show False from p).elim
        | cons n ns =>
          have hl : 0 < (n :: ns).length := Nat.succ_pos _
          refine ⟨a, n :: ns, rfl, h1, hl, fun m' hm hle => ?_⟩
          obtain ⟨k1, k2⟩ := maxI_ok hl
          have : m' = maxI (n :: ns) := by have := hle _ k1; have := k2 _ hm; omega
          subst this
          exact Post.ok p (Stp.refl S) sa (.int _)
  · exact p.elim
end
end DL

namespace DL
open PySem PySem.Spec PyProof.Rows L2
variable [LamTab]
section
variable {X : Cx} {a b e o tg : Expr} {es : List Expr} {ta tb to te : DE} {t : DA} {pos p apos : Pos} {k : Nat}
/-! ### texts -/
def toSs : List D → Option (List Str)
  | [] => some []
  | .str b :: ds => match toSs ds with
    | some bs => some (b :: bs)
    | none => none
  | _ => none
theorem toSs_ok {K : PySem.W.Frag} {i : List Addr} {F : Hp} : ∀ {ds : List D} {xs : List V} {bs : List Str}, Reps K i F ds xs → toSs ds = some bs → xs = bs.map V.str
  | [], _, _, r, h => by cases r; cases h; rfl
  | d :: ds, _, _, r, h => by
    cases r with
    | cons h1 h2 =>
      cases h1 with
      | str b =>
        unfold toSs at h
        cases q : toSs ds with
        | none => rw [q] at h; cases h
        | some bs => rw [q] at h; cases h; rw [toSs_ok h2 q]; rfl
      | _ => simp [toSs] at h
def dJoin (to te : DE) : DE := fun e m => (to e m).bind fun o m1 => match o with
  | .str a => (te e m1).bind fun d m2 => match (seqA m2 d).bind toSs with
    | some ys => if (ys.map (·.length)).sum + ys.length * a.length ≤ 16777216 then .ok (.str (Txt.join a ys)) m2 else .stuck
    | none => .stuck
  | _ => .stuck
@[simp ↓] theorem dJoin_ap (to te : DE) (e : En) (m : Mu) : dJoin to te e m = (to e m).bind fun o m1 => match o with
  | .str a => (te e m1).bind fun d m2 => match (seqA m2 d).bind toSs with
    | some ys => if (ys.map (·.length)).sum + ys.length * a.length ≤ 16777216 then .ok (.str (Txt.join a ys)) m2 else .stuck
    | none => .stuck
  | _ => .stuck := rfl
theorem pd_join (ho : PDE X o to) (he : PDE X e te) (hs : starEach [e] X.env = [(false, eval e X.env)] := by rfl) (hbase : attributeBase o "join" X.env (eval o X.env) = eval o X.env := by rfl) (hline : (apos.endLine == pos.line) = true := by rfl) :
    PDE X (.Call (.Attribute o "join" apos) [e] [] pos) (dJoin to te) := by
  refine pd_of (pe_join (mxE X o) (mxE X e) hs hbase hline) fun S r m σ Q sa re p => ?_
  refine ho S r m σ _ sa re (Post.bindI p fun od m1 v T st sa1 rd q => ?_)
  split at q
  · rename_i a
    cases rd
    refine ⟨⟨a, rfl⟩, he T r m1 σ _ sa1 (re.stp st) (Post.bindI q fun d m2 w U st2 sa2 rw q2 => ?_)⟩
    split at q2
    · rename_i ys e1
      split at q2
      · rename_i hl
        cases qs : seqA m2 d with
        | none => rw [qs] at e1; cases e1
        | some ds =>
          rw [qs] at e1
          have e1 : toSs ds = some ys := e1
          have fin := Post.ok q2 (Stp.refl U) sa2 (.str (Txt.join a ys))
          unfold seqA at qs
          cases q3 : seqL m2 d with
          | some zs =>
            rw [q3] at qs
            cases qs
            obtain ⟨pp, xs, rfl, h1, h2⟩ := seqL_ok sa2 rw q3
            have := toSs_ok h2 e1
            subst this
            exact ⟨a, pp, ys, rfl, rfl, .inl h1, hl, fin⟩
          | none =>
            rw [q3] at qs
            obtain ⟨pp, xs, rfl, h1, h2⟩ := seqT_ok sa2 rw qs
            have := toSs_ok h2 e1
            subst this
            exact ⟨a, pp, ys, rfl, rfl, .inr h1, hl, fin⟩
      · exact q2.elim
    · exact q2.elim
  · exact q.elim
/-- a text's signs -/
def signs (x : Str) : List D := x.cps.toList.map fun c => .str ⟨#[c]⟩
def dItStr (t : DE) : DA := fun e m => (t e m).bind fun d m1 => match d with
  | .str x => .ok (signs x) m1
  | _ => .stuck
@[simp ↓] theorem dItStr_ap (t : DE) (e : En) (m : Mu) : dItStr t e m = (t e m).bind fun d m1 => match d with
  | .str x => .ok (signs x) m1
  | _ => .stuck := rfl
theorem pdi_str (ha : PDE X a ta) : PDI X tg a (dItStr ta) := by
  refine pdi_of (pi_str (mxE X a)) fun S r m σ R sa re p => ?_
  refine ha S r m σ _ sa re (PostI.bindI p fun d m1 v T st sa1 rd q => ?_)
  split at q
  · rename_i x
    cases rd
    refine ⟨x, rfl, q _ T (Stp.refl T) sa1 fun U m' i st' sa' => ⟨fun d hd => ?_, fun hl => ?_⟩⟩
    · unfold signs at hd
      rw [List.getElem?_map] at hd
      cases h : x.cps.toList[i]? with
      | none => rw [h] at hd; cases hd
      | some c =>
        rw [h] at hd
        cases hd
        have hi : i < x.cps.size := by simpa using (List.getElem?_eq_some_iff.mp h).1
        refine ⟨hi, fun y H' hy => ⟨U, hy.1.symm, Stp.refl U, sa', ?_⟩⟩
        obtain ⟨c', hc, rfl⟩ := hy.2
        have : c' = c := by
          rw [← Array.getElem?_toList] at hc
          rw [h] at hc
          exact (Option.some.inj hc).symm
        subst this
        exact .str _
    · show x.cps.size ≤ i
      unfold signs at hl
      simpa using hl
  · exact q.elim
/-- a slice of a text -/
def dSlStr (t : DE) (lo hi : DO) : DE := fun e m => (t e m).bind fun d m1 => (lo e m1).bind fun l m2 => (hi e m2).bind fun h m3 => match d with
  | .str z => if z.length ≤ sizeLine then .ok (.str (cutS z l h)) m3 else .stuck
  | _ => .stuck
@[simp ↓] theorem dSlStr_ap (t : DE) (lo hi : DO) (e : En) (m : Mu) : dSlStr t lo hi e m = (t e m).bind fun d m1 => (lo e m1).bind fun l m2 => (hi e m2).bind fun h m3 => match d with
  | .str z => if z.length ≤ sizeLine then .ok (.str (cutS z l h)) m3 else .stuck
  | _ => .stuck := rfl
theorem pd_slStr {lo hi : Option Expr} {tl th : DO} {p2 : Pos} (ha : PDE X a ta) (hl : PDO X lo tl) (hh : PDO X hi th) : PDE X (.Subscript a (.Slice lo hi none p2) pos) (dSlStr ta tl th) := by
  obtain ⟨ul, hl1, hl2⟩ := hl
  obtain ⟨uh, hh1, hh2⟩ := hh
  refine pd_of (pe_slice sl_str (mxE X a) hl1 hh1) fun S r m σ Q sa re p => ?_
  refine ha S r m σ _ sa re (Post.bindI p fun d m1 v T st sa1 rd q => ?_)
  refine hl2 T r m1 σ _ sa1 (re.stp st) (Post.bindI q fun l m2 l' U st2 sa2 rl q2 => ?_)
  have rl : l = l' := rl
  subst rl
  refine hh2 U r m2 σ _ sa2 ((re.stp st).stp st2) (Post.bindI q2 fun h m3 h' Y st3 sa3 rh q3 => ?_)
  have rh : h = h' := rh
  subst rh
  split at q3
  · rename_i z
    cases rd
    split at q3
    · rename_i hz
      exact ⟨z, rfl, hz, Post.ok q3 (Stp.refl Y) sa3 (.str _)⟩
    · exact q3.elim
  · exact q3.elim
/-- a slice of a tuple -/
def dSlT (t : DE) (lo hi : DO) : DE := fun e m => (t e m).bind fun d m1 => (lo e m1).bind fun l m2 => (hi e m2).bind fun h m3 => match d with
  | .tup ds => .ok (.tup (cutD ds l h)) m3
  | _ => .stuck
@[simp ↓] theorem dSlT_ap (t : DE) (lo hi : DO) (e : En) (m : Mu) : dSlT t lo hi e m = (t e m).bind fun d m1 => (lo e m1).bind fun l m2 => (hi e m2).bind fun h m3 => match d with
  | .tup ds => .ok (.tup (cutD ds l h)) m3
  | _ => .stuck := rfl
theorem cutV_whole {xs : List V} {lo hi : Option Int} (h : HT.sIx xs.length 0 lo = 0 ∧ HT.sIx xs.length xs.length hi = xs.length) : cutV xs lo hi = xs := by
  unfold cutV
  rw [h.1, h.2]; simp
theorem pd_slT {lo hi : Option Expr} {tl th : DO} {p2 : Pos} (ha : PDE X a ta) (hl : PDO X lo tl) (hh : PDO X hi th) : PDE X (.Subscript a (.Slice lo hi none p2) pos) (dSlT ta tl th) := by
  obtain ⟨ul, hl1, hl2⟩ := hl
  obtain ⟨uh, hh1, hh2⟩ := hh
  refine pd_of (pe_slice sl_tupA (mxE X a) hl1 hh1) fun S r m σ Q sa re p => ?_
  refine ha S r m σ _ sa re (Post.bindI p fun d m1 v T st sa1 rd q => ?_)
  refine hl2 T r m1 σ _ sa1 (re.stp st) (Post.bindI q fun l m2 l' U st2 sa2 rl q2 => ?_)
  have rl : l = l' := rl
  subst rl
  refine hh2 U r m2 σ _ sa2 ((re.stp st).stp st2) (Post.bindI q2 fun h m3 h' Y st3 sa3 rh q3 => ?_)
  have rh : h = h' := rh
  subst rh
  split at q3
  · rename_i ds
    have rd3 := (rd.stp st2).stp st3
    cases rd3 with
    | @tup _ a' xs h1 h2 =>
      have rc := cut_reps h2 l h
      refine ⟨a', xs, rfl, SqT.ext' h1 sa3.sub, fun hw => ?_, fun hw n hn => ?_⟩
      · rw [cutV_whole hw] at rc
        exact Post.ok q3 (Stp.refl Y) sa3 (.tup h1 rc)
      · have st4 := Stp.new sa3 (o := .tup (cutV xs l h)) hn
        exact q3 (.ref n) (Y.new n (.tup (cutV xs l h))) st4 (sa3.new hn) (.tup (.inl (.inl upd_same)) (rc.stp st4))
  · exact q3.elim
end
end DL

namespace GQ
open PySem PySem.SeqAt
open AutoSeq1 (wpAny_loadPart')
open MeetsSeq MeetsSeq2 MeetsSeq3 SeqRoads2
section
variable {prog : Program} {w : World} {A : Around} {R : Result → Shared → Prop}
/-- two lists of N items each at s -/
def TwoL (l b : Addr) (N : Nat) (s : Shared) : Prop := ∃ (items items2 : Array Value) (n n2 : Nat) (dd dd2 : Option Addr) (sl sl2 : Array (Option Value)), s.heap.get? l = some { cls := .type "list", dict := dd, data := .seq items n, slots := sl } ∧ s.heap.get? b = some { cls := .type "list", dict := dd2, data := .seq items2 n2, slots := sl2 } ∧ items.size = N ∧ items2.size = N
/-- at each turn: equal and on, or different and Fl -/
def ListB (prog : Program) (w : World) (A : Around) (E : Value → Shared → Prop) (l b : Addr) (N : Nat) (I : Nat → Shared → Prop) (Fl : Shared → Prop) : Prop :=
  ∀ i s, I i s → ∃ (items items2 : Array Value) (n n2 : Nat) (dd dd2 : Option Addr) (sl sl2 : Array (Option Value)), s.heap.get? l = some { cls := .type "list", dict := dd, data := .seq items n, slots := sl } ∧ s.heap.get? b = some { cls := .type "list", dict := dd2, data := .seq items2 n2, slots := sl2 } ∧ items.size = N ∧ items2.size = N ∧
    ∀ (h1 : i < items.size) (h2 : i < items2.size), wpAny (model prog w) A.in1 (eqBool items[i] items2[i]) (fun r s' => if r then I (i + 1) s' else Fl s' ∧ TwoL l b N s') E s

theorem eq_loopE (l b : Addr) (N : Nat) (I : Nat → Shared → Prop) (Fl : Shared → Prop) (hl : ListB prog w A (fun e s' => R (.error e) s') l b N I Fl)
    (fin : ∀ s, I N s → R (.ok (.ret (.bool true))) s) (fal : ∀ s, Fl s → R (.ok (.ret (.bool false))) s) (k : Nat) :
    ∀ i : Nat, N - i = k → i ≤ N → ∀ s, I i s →
      wpAny (model prog w) A.in1 (Builtin.«list.__eq__.loop» ⟨[.ref l, .ref b, rawInt i, rawInt 2], []⟩) (FinOf prog w A R) (fun e s' => R (.error e) s') s := by
  induction k with
  | zero =>
    intro i hk hi s h
    obtain ⟨items, items2, n, n2, dd, dd2, sl, sl2, hl1, hb1, hs1, hs2, _⟩ := hl _ _ h
    have hi' : i = N := by omega
    have hR := fin s (hi' ▸ h)
    obtain ⟨hp, g, d, tk, os⟩ := s
    wp_walk using wpAny_loadPart' hl1, wpAny_loadPart' hb1
    have hi1 : items[((i : Nat) : Int).toNat]? = none := by simp; omega
    have hi2 : items2[((i : Nat) : Int).toNat]? = none := by simp; omega
    rw [hi1, hi2]
    wp_walk using wpAny_loadPart' hl1, wpAny_loadPart' hb1
    show R (.ok (.ret (.bool (items.size == items2.size)))) _
    rw [hs1, hs2]
    simpa using hR
  | succ k ih =>
    intro i hk hi s h
    obtain ⟨items, items2, n, n2, dd, dd2, sl, sl2, hl1, hb1, hs1, hs2, turn⟩ := hl _ _ h
    have hlt : i < items.size := by omega
    have hlt2 : i < items2.size := by omega
    have ht := turn hlt hlt2
    obtain ⟨hp, g, d, tk, os⟩ := s
    wp_walk using wpAny_loadPart' hl1, wpAny_loadPart' hb1
    have hi1 : items[((i : Nat) : Int).toNat]? = some items[i] := by simp [hlt]
    have hi2 : items2[((i : Nat) : Int).toNat]? = some items2[i] := by simp [hlt2]
    have hc : ((i : Int) + 1) = ((i + 1 : Nat) : Int) := by omega
    rw [hi1, hi2]
    refine wpAny_bind (wpAny_mono ht (fun r s2 h2 => ?_) fun _ _ x => x)
    cases r with
    | true =>
      have h2 : I (i + 1) s2 := h2
      have hrec := ih (i + 1) (by omega) (by omega) s2 h2
      obtain ⟨hp2, g2, d2, tk2, os2⟩ := s2
      wp_walk
      rw [hc]
      exact ⟨plainId_quiet plain_eq_loop _, codeAny_builtin entry_eq_loop (by
        rw [Around.under_plainId plain_eq_loop _]
        exact hrec)⟩
    | false =>
      obtain ⟨h2, it3, it4, n3, n4, dd3, dd4, sl3, sl4, hl3, hb3, hs3, hs4⟩ := (h2 : Fl s2 ∧ _)
      have hR := fal s2 h2
      have hlt3 : i < it3.size := by omega
      have hlt4 : i < it4.size := by omega
      have hi3 : it3[((i : Nat) : Int).toNat]? = some it3[i] := by simp [hlt3]
      have hi4 : it4[((i : Nat) : Int).toNat]? = some it4[i] := by simp [hlt4]
      obtain ⟨hp2, g2, d2, tk2, os2⟩ := s2
      wp_walk using wpAny_loadPart' hl3, wpAny_loadPart' hb3
      rw [hi3, hi4]
      wp_walk
      simpa using hR

theorem list_eqB (l b : Addr) (N : Nat) (I : Nat → Shared → Prop) (Fl : Shared → Prop) (hl : ListB prog w A (fun e s' => R (.error e) s') l b N I Fl)
    (fin : ∀ s, I N s → R (.ok (.ret (.bool true))) s) (fal : ∀ s, Fl s → R (.ok (.ret (.bool false))) s) {s : Shared} (h : I 0 s) :
    wpAny (model prog w) A.in1 (Builtin.«list.__eq__» ⟨[.ref l, .ref b], []⟩) (FinOf prog w A R) (fun e s' => R (.error e) s') s := by
  obtain ⟨items, items2, n, n2, dd, dd2, sl, sl2, hl1, hb1, hs1, hs2, _⟩ := hl _ _ h
  have hrec := eq_loopE (A := A) (R := R) l b N I Fl hl fin fal _ 0 rfl (Nat.zero_le _) s h
  obtain ⟨hp, g, d, tk, os⟩ := s
  have f3 := AutoSeq1.sub_list_list
  have hne : ¬ (items.size != items2.size) = true := by simp [hs1, hs2]
  wp_walk using wpAny_loadPart' hl1, wpAny_loadPart' hb1
  exact ⟨plainId_quiet plain_eq_loop _, codeAny_builtin entry_eq_loop (by
    rw [Around.under_plainId plain_eq_loop _]
    exact hrec)⟩
theorem list_eqL (l b : Addr) (items items2 : Array Value) (n n2 : Nat) (dd dd2 : Option Addr) (sl sl2 : Array (Option Value)) (hsz : items.size ≠ items2.size) {s : Shared} (hl1 : s.heap.get? l = some { cls := .type "list", dict := dd, data := .seq items n, slots := sl }) (hb1 : s.heap.get? b = some { cls := .type "list", dict := dd2, data := .seq items2 n2, slots := sl2 })
    (fal : R (.ok (.ret (.bool false))) s) :
    wpAny (model prog w) A.in1 (Builtin.«list.__eq__» ⟨[.ref l, .ref b], []⟩) (FinOf prog w A R) (fun e s' => R (.error e) s') s := by
  obtain ⟨hp, g, d, tk, os⟩ := s
  have f3 := AutoSeq1.sub_list_list
  have hne : (items.size != items2.size) = true := by simp [hsz]
  wp_walk using wpAny_loadPart' hl1, wpAny_loadPart' hb1
  exact fal

theorem tuple_eqB (l b : Addr) (items items2 : Array Value) (n n2 : Nat) (dd dd2 : Option Addr) (sl sl2 : Array (Option Value)) (I : Nat → Shared → Prop) (Fl : Shared → Prop)
    (turn : ∀ i (h1 : i < items.size) (h2 : i < items2.size) s, I i s → wpAny (model prog w) A.in1 (eqBool items[i] items2[i]) (fun r s' => if r then I (i + 1) s' else Fl s') (fun e s' => R (.error e) s') s)
    (fin : ∀ s, I (min items.size items2.size) s → R (.ok (.ret (.bool (items.size == items2.size)))) s) (fal : ∀ s, Fl s → R (.ok (.ret (.bool false))) s) {s : Shared} (hl1 : s.heap.get? l = some { cls := .type "tuple", dict := dd, data := .seq items n, slots := sl }) (hb1 : s.heap.get? b = some { cls := .type "tuple", dict := dd2, data := .seq items2 n2, slots := sl2 }) (h : I 0 s) :
    wpAny (model prog w) A.in1 (Builtin.«tuple.__eq__» ⟨[.ref l, .ref b], []⟩) (FinOf prog w A R) (fun e s' => R (.error e) s') s := by
  have f2 := AutoSeq1.sub_tuple_tuple
  have hZ : (items.toList.zip items2.toList).length = min items.size items2.size := by simp
  have h0 := h
  obtain ⟨hp, g, d, tk, os⟩ := s
  wp_walk using wpAny_loadPart' hl1, wpAny_loadPart' hb1, wpAny_forIn_list _ (fun rest b s' => (b.1 = none ∧ ∃ i, rest = (items.toList.zip items2.toList).drop i ∧ i ≤ min items.size items2.size ∧ I i s') ∨ (rest = [] ∧ b.1 = some (.done (.ret (.bool false))) ∧ Fl s')) _
  case turn =>
    rintro ⟨y, x⟩ rest b s' hyp
    rcases hyp with ⟨hb', i, hz, hi, hI⟩ | ⟨hz, _, _⟩
    · have hlt : i < (items.toList.zip items2.toList).length := by
        rcases Nat.lt_or_ge i (items.toList.zip items2.toList).length with h' | h'
        · exact h'
        · rw [List.drop_of_length_le h'] at hz; cases hz
      have h1 : i < items.size := by omega
      have h2 : i < items2.size := by omega
      rw [List.drop_eq_getElem_cons hlt] at hz
      injection hz with hyx hrest
      have hy : y = items[i] := by have := congrArg Prod.fst hyx; simpa using this
      have hx : x = items2[i] := by have := congrArg Prod.snd hyx; simpa using this
      subst hy hx
      refine wpAny_bind (wpAny_mono (turn i h1 h2 s' hI) (fun r s2 q2 => ?_) fun _ _ x => x)
      cases r with
      | true =>
        have q2 : I (i + 1) s2 := q2
        wp_walk
        exact .inl ⟨rfl, i + 1, hrest, by omega, q2⟩
      | false =>
        have q2 : Fl s2 := q2
        wp_walk
        exact fal s2 q2
    · cases hz
  case fin =>
    rintro ⟨b1, b2⟩ s' hyp
    rcases hyp with ⟨hb', i, hz, hi, hI⟩ | ⟨_, hb', hF⟩
    · simp only at hb'
      subst hb'
      have hge : min items.size items2.size ≤ i := by
        rcases Nat.lt_or_ge i (items.toList.zip items2.toList).length with h' | h'
        · rw [List.drop_eq_getElem_cons h'] at hz; cases hz
        · omega
      have hi' : i = min items.size items2.size := by omega
      have hR := fin s' (hi' ▸ hI)
      wp_walk
      simpa [Builtin.Tuple.tupleCompareSizes] using hR
    · simp only at hb'
      subst hb'
      have hR := fal s' hF
      wp_walk
      exact hR
  case h =>
    exact .inl ⟨rfl, 0, rfl, Nat.zero_le _, h0⟩

theorem eq_loopN (l b : Addr) (N : Nat) (I : Nat → Shared → Prop) (Fl : Shared → Prop) (hl : ListB prog w A (fun e s' => R (.error e) s') l b N I Fl)
    (fin : ∀ s, I N s → R (.ok (.ret (.bool false))) s) (fal : ∀ s, Fl s → R (.ok (.ret (.bool true))) s) (k : Nat) :
    ∀ i : Nat, N - i = k → i ≤ N → ∀ s, I i s →
      wpAny (model prog w) A.in1 (Builtin.«list.__eq__.loop» ⟨[.ref l, .ref b, rawInt i, rawInt 3], []⟩) (FinOf prog w A R) (fun e s' => R (.error e) s') s := by
  induction k with
  | zero =>
    intro i hk hi s h
    obtain ⟨items, items2, n, n2, dd, dd2, sl, sl2, hl1, hb1, hs1, hs2, _⟩ := hl _ _ h
    have hi' : i = N := by omega
    have hR := fin s (hi' ▸ h)
    obtain ⟨hp, g, d, tk, os⟩ := s
    wp_walk using wpAny_loadPart' hl1, wpAny_loadPart' hb1
    have hi1 : items[((i : Nat) : Int).toNat]? = none := by simp; omega
    have hi2 : items2[((i : Nat) : Int).toNat]? = none := by simp; omega
    rw [hi1, hi2]
    wp_walk using wpAny_loadPart' hl1, wpAny_loadPart' hb1
    show R (.ok (.ret (.bool (items.size != items2.size)))) _
    rw [hs1, hs2]
    simpa using hR
  | succ k ih =>
    intro i hk hi s h
    obtain ⟨items, items2, n, n2, dd, dd2, sl, sl2, hl1, hb1, hs1, hs2, turn⟩ := hl _ _ h
    have hlt : i < items.size := by omega
    have hlt2 : i < items2.size := by omega
    have ht := turn hlt hlt2
    obtain ⟨hp, g, d, tk, os⟩ := s
    wp_walk using wpAny_loadPart' hl1, wpAny_loadPart' hb1
    have hi1 : items[((i : Nat) : Int).toNat]? = some items[i] := by simp [hlt]
    have hi2 : items2[((i : Nat) : Int).toNat]? = some items2[i] := by simp [hlt2]
    have hc : ((i : Int) + 1) = ((i + 1 : Nat) : Int) := by omega
    rw [hi1, hi2]
    refine wpAny_bind (wpAny_mono ht (fun r s2 h2 => ?_) fun _ _ x => x)
    cases r with
    | true =>
      have h2 : I (i + 1) s2 := h2
      have hrec := ih (i + 1) (by omega) (by omega) s2 h2
      obtain ⟨hp2, g2, d2, tk2, os2⟩ := s2
      wp_walk
      rw [hc]
      exact ⟨plainId_quiet plain_eq_loop _, codeAny_builtin entry_eq_loop (by
        rw [Around.under_plainId plain_eq_loop _]
        exact hrec)⟩
    | false =>
      obtain ⟨h2, it3, it4, n3, n4, dd3, dd4, sl3, sl4, hl3, hb3, hs3, hs4⟩ := (h2 : Fl s2 ∧ _)
      have hR := fal s2 h2
      have hlt3 : i < it3.size := by omega
      have hlt4 : i < it4.size := by omega
      have hi3 : it3[((i : Nat) : Int).toNat]? = some it3[i] := by simp [hlt3]
      have hi4 : it4[((i : Nat) : Int).toNat]? = some it4[i] := by simp [hlt4]
      obtain ⟨hp2, g2, d2, tk2, os2⟩ := s2
      wp_walk using wpAny_loadPart' hl3, wpAny_loadPart' hb3
      rw [hi3, hi4]
      wp_walk
      simpa using hR

theorem list_neB (l b : Addr) (N : Nat) (I : Nat → Shared → Prop) (Fl : Shared → Prop) (hl : ListB prog w A (fun e s' => R (.error e) s') l b N I Fl)
    (fin : ∀ s, I N s → R (.ok (.ret (.bool false))) s) (fal : ∀ s, Fl s → R (.ok (.ret (.bool true))) s) {s : Shared} (h : I 0 s) :
    wpAny (model prog w) A.in1 (Builtin.«list.__ne__» ⟨[.ref l, .ref b], []⟩) (FinOf prog w A R) (fun e s' => R (.error e) s') s := by
  obtain ⟨items, items2, n, n2, dd, dd2, sl, sl2, hl1, hb1, hs1, hs2, _⟩ := hl _ _ h
  have hrec := eq_loopN (A := A) (R := R) l b N I Fl hl fin fal _ 0 rfl (Nat.zero_le _) s h
  obtain ⟨hp, g, d, tk, os⟩ := s
  have f3 := AutoSeq1.sub_list_list
  have hne : ¬ (items.size != items2.size) = true := by simp [hs1, hs2]
  wp_walk using wpAny_loadPart' hl1, wpAny_loadPart' hb1
  exact ⟨plainId_quiet plain_eq_loop _, codeAny_builtin entry_eq_loop (by
    rw [Around.under_plainId plain_eq_loop _]
    exact hrec)⟩
theorem list_neL (l b : Addr) (items items2 : Array Value) (n n2 : Nat) (dd dd2 : Option Addr) (sl sl2 : Array (Option Value)) (hsz : items.size ≠ items2.size) {s : Shared} (hl1 : s.heap.get? l = some { cls := .type "list", dict := dd, data := .seq items n, slots := sl }) (hb1 : s.heap.get? b = some { cls := .type "list", dict := dd2, data := .seq items2 n2, slots := sl2 })
    (fal : R (.ok (.ret (.bool true))) s) :
    wpAny (model prog w) A.in1 (Builtin.«list.__ne__» ⟨[.ref l, .ref b], []⟩) (FinOf prog w A R) (fun e s' => R (.error e) s') s := by
  obtain ⟨hp, g, d, tk, os⟩ := s
  have f3 := AutoSeq1.sub_list_list
  have hne : (items.size != items2.size) = true := by simp [hsz]
  wp_walk using wpAny_loadPart' hl1, wpAny_loadPart' hb1
  exact fal

theorem tuple_neB (l b : Addr) (items items2 : Array Value) (n n2 : Nat) (dd dd2 : Option Addr) (sl sl2 : Array (Option Value)) (I : Nat → Shared → Prop) (Fl : Shared → Prop)
    (turn : ∀ i (h1 : i < items.size) (h2 : i < items2.size) s, I i s → wpAny (model prog w) A.in1 (eqBool items[i] items2[i]) (fun r s' => if r then I (i + 1) s' else Fl s') (fun e s' => R (.error e) s') s)
    (fin : ∀ s, I (min items.size items2.size) s → R (.ok (.ret (.bool (items.size != items2.size)))) s) (fal : ∀ s, Fl s → R (.ok (.ret (.bool true))) s) {s : Shared} (hl1 : s.heap.get? l = some { cls := .type "tuple", dict := dd, data := .seq items n, slots := sl }) (hb1 : s.heap.get? b = some { cls := .type "tuple", dict := dd2, data := .seq items2 n2, slots := sl2 }) (h : I 0 s) :
    wpAny (model prog w) A.in1 (Builtin.«tuple.__ne__» ⟨[.ref l, .ref b], []⟩) (FinOf prog w A R) (fun e s' => R (.error e) s') s := by
  have f2 := AutoSeq1.sub_tuple_tuple
  have hZ : (items.toList.zip items2.toList).length = min items.size items2.size := by simp
  have h0 := h
  obtain ⟨hp, g, d, tk, os⟩ := s
  wp_walk using wpAny_loadPart' hl1, wpAny_loadPart' hb1, wpAny_forIn_list _ (fun rest b s' => (b.1 = none ∧ ∃ i, rest = (items.toList.zip items2.toList).drop i ∧ i ≤ min items.size items2.size ∧ I i s') ∨ (rest = [] ∧ b.1 = some (.done (.ret (.bool true))) ∧ Fl s')) _
  case turn =>
    rintro ⟨y, x⟩ rest b s' hyp
    rcases hyp with ⟨hb', i, hz, hi, hI⟩ | ⟨hz, _, _⟩
    · have hlt : i < (items.toList.zip items2.toList).length := by
        rcases Nat.lt_or_ge i (items.toList.zip items2.toList).length with h' | h'
        · exact h'
        · rw [List.drop_of_length_le h'] at hz; cases hz
      have h1 : i < items.size := by omega
      have h2 : i < items2.size := by omega
      rw [List.drop_eq_getElem_cons hlt] at hz
      injection hz with hyx hrest
      have hy : y = items[i] := by have := congrArg Prod.fst hyx; simpa using this
      have hx : x = items2[i] := by have := congrArg Prod.snd hyx; simpa using this
      subst hy hx
      refine wpAny_bind (wpAny_mono (turn i h1 h2 s' hI) (fun r s2 q2 => ?_) fun _ _ x => x)
      cases r with
      | true =>
        have q2 : I (i + 1) s2 := q2
        wp_walk
        exact .inl ⟨rfl, i + 1, hrest, by omega, q2⟩
      | false =>
        have q2 : Fl s2 := q2
        wp_walk
        exact fal s2 q2
    · cases hz
  case fin =>
    rintro ⟨b1, b2⟩ s' hyp
    rcases hyp with ⟨hb', i, hz, hi, hI⟩ | ⟨_, hb', hF⟩
    · simp only at hb'
      subst hb'
      have hge : min items.size items2.size ≤ i := by
        rcases Nat.lt_or_ge i (items.toList.zip items2.toList).length with h' | h'
        · rw [List.drop_eq_getElem_cons h'] at hz; cases hz
        · omega
      have hi' : i = min items.size items2.size := by omega
      have hR := fin s' (hi' ▸ hI)
      wp_walk
      simpa [Builtin.Tuple.tupleCompareSizes] using hR
    · simp only at hb'
      subst hb'
      have hR := fal s' hF
      wp_walk
      exact hR
  case h =>
    exact .inl ⟨rfl, 0, rfl, Nat.zero_le _, h0⟩
end
end GQ

namespace GQ
open PySem PySem.SeqAt PySem.Spec PyProof.Rows L2
open MeetsSeq MeetsSeq2 MeetsSeq3 SeqRoads2
section
variable {prog : Program} {w : World} {A : Around} {E : Value → Shared → Prop} {s : Shared}
theorem rc_listB {l b : Addr} {N : Nat} {Q : Value → Shared → Prop} (hu : A.units < cLine) (I : Nat → Shared → Prop) (Fl : Shared → Prop) (hl : ListB prog w A E l b N I Fl)
    (fin : ∀ s, I N s → Q (.bool true) s) (fal : ∀ s, Fl s → Q (.bool false) s) (h : I 0 s) : wpAny (model prog w) A (richCompare .Eq (.ref l) (.ref b)) Q E s := by
  obtain ⟨items, items2, n, n2, dd, dd2, sl, sl2, hl1, hb1, _, _, _⟩ := hl _ _ h
  refine wpAny_richCompare_same_room (op := .Eq) ⟨_, hl1, rfl⟩ ⟨_, hb1, rfl⟩ F.slot_list_eq (call_here F.slot_list_eq ⟨_, hl1, rfl⟩ F.entry_list_eq (F.args_list_eq_2 _ _) ?_) hu
  exact list_eqB (R := wants (fun v s' => v ≠ .notImplemented ∧ Q v s') E) l b N I Fl hl (fun s' q => ⟨(fun x => nomatch x), fin s' q⟩) (fun s' q => ⟨(fun x => nomatch x), fal s' q⟩) h
theorem rc_listNe {l b : Addr} {N : Nat} {Q : Value → Shared → Prop} (hu : A.units < cLine) (I : Nat → Shared → Prop) (Fl : Shared → Prop) (hl : ListB prog w A E l b N I Fl)
    (fin : ∀ s, I N s → Q (.bool false) s) (fal : ∀ s, Fl s → Q (.bool true) s) (h : I 0 s) : wpAny (model prog w) A (richCompare .NotEq (.ref l) (.ref b)) Q E s := by
  obtain ⟨items, items2, n, n2, dd, dd2, sl, sl2, hl1, hb1, _, _, _⟩ := hl _ _ h
  refine wpAny_richCompare_same_room (op := .NotEq) ⟨_, hl1, rfl⟩ ⟨_, hb1, rfl⟩ F.slot_list_ne (call_here F.slot_list_ne ⟨_, hl1, rfl⟩ F.entry_list_ne (F.args_list_ne_2 _ _) ?_) hu
  exact list_neB (R := wants (fun v s' => v ≠ .notImplemented ∧ Q v s') E) l b N I Fl hl (fun s' q => ⟨(fun x => nomatch x), fin s' q⟩) (fun s' q => ⟨(fun x => nomatch x), fal s' q⟩) h
theorem rc_listL {l b : Addr} {items items2 : Array Value} {n n2 : Nat} {dd dd2 : Option Addr} {sl sl2 : Array (Option Value)} {Q : Value → Shared → Prop} (hu : A.units < cLine) (hl1 : s.heap.get? l = some { cls := .type "list", dict := dd, data := .seq items n, slots := sl }) (hb1 : s.heap.get? b = some { cls := .type "list", dict := dd2, data := .seq items2 n2, slots := sl2 })
    (hsz : items.size ≠ items2.size) (h : Q (.bool false) s) : wpAny (model prog w) A (richCompare .Eq (.ref l) (.ref b)) Q E s := by
  refine wpAny_richCompare_same_room (op := .Eq) ⟨_, hl1, rfl⟩ ⟨_, hb1, rfl⟩ F.slot_list_eq (call_here F.slot_list_eq ⟨_, hl1, rfl⟩ F.entry_list_eq (F.args_list_eq_2 _ _) ?_) hu
  exact list_eqL (R := wants (fun v s' => v ≠ .notImplemented ∧ Q v s') E) l b items items2 n n2 dd dd2 sl sl2 hsz hl1 hb1 ⟨(fun x => nomatch x), h⟩
theorem rc_listLNe {l b : Addr} {items items2 : Array Value} {n n2 : Nat} {dd dd2 : Option Addr} {sl sl2 : Array (Option Value)} {Q : Value → Shared → Prop} (hu : A.units < cLine) (hl1 : s.heap.get? l = some { cls := .type "list", dict := dd, data := .seq items n, slots := sl }) (hb1 : s.heap.get? b = some { cls := .type "list", dict := dd2, data := .seq items2 n2, slots := sl2 })
    (hsz : items.size ≠ items2.size) (h : Q (.bool true) s) : wpAny (model prog w) A (richCompare .NotEq (.ref l) (.ref b)) Q E s := by
  refine wpAny_richCompare_same_room (op := .NotEq) ⟨_, hl1, rfl⟩ ⟨_, hb1, rfl⟩ F.slot_list_ne (call_here F.slot_list_ne ⟨_, hl1, rfl⟩ F.entry_list_ne (F.args_list_ne_2 _ _) ?_) hu
  exact list_neL (R := wants (fun v s' => v ≠ .notImplemented ∧ Q v s') E) l b items items2 n n2 dd dd2 sl sl2 hsz hl1 hb1 ⟨(fun x => nomatch x), h⟩
theorem rc_tupB {l b : Addr} {items items2 : Array Value} {Q : Value → Shared → Prop} (hu : A.units < cLine) (I : Nat → Shared → Prop) (Fl : Shared → Prop)
    (hl : s.heap.IsTuple l items) (hb : s.heap.IsTuple b items2)
    (turn : ∀ i (h1 : i < items.size) (h2 : i < items2.size) s, I i s → wpAny (model prog w) A.in1 (eqBool items[i] items2[i]) (fun r s' => if r then I (i + 1) s' else Fl s') E s)
    (fin : ∀ s, I (min items.size items2.size) s → Q (.bool (items.size == items2.size)) s) (fal : ∀ s, Fl s → Q (.bool false) s) (h : I 0 s) : wpAny (model prog w) A (richCompare .Eq (.ref l) (.ref b)) Q E s := by
  obtain ⟨⟨cls, dd, data, sl⟩, ho, hc, n, hd⟩ := id hl
  obtain ⟨⟨cls2, dd2, data2, sl2⟩, ho2, hc2, n2, hd2⟩ := id hb
  simp only at hc hd hc2 hd2
  subst hc hd hc2 hd2
  refine wpAny_richCompare_same_room (op := .Eq) ⟨_, ho, rfl⟩ ⟨_, ho2, rfl⟩ F.slot_tuple_eq (call_here F.slot_tuple_eq ⟨_, ho, rfl⟩ F.entry_tuple_eq (F.args_tuple_eq_2 _ _) ?_) hu
  exact tuple_eqB (R := wants (fun v s' => v ≠ .notImplemented ∧ Q v s') E) l b items items2 n n2 dd dd2 sl sl2 I Fl turn (fun s' q => ⟨(fun x => nomatch x), fin s' q⟩) (fun s' q => ⟨(fun x => nomatch x), fal s' q⟩) ho ho2 h
theorem rc_tupNe {l b : Addr} {items items2 : Array Value} {Q : Value → Shared → Prop} (hu : A.units < cLine) (I : Nat → Shared → Prop) (Fl : Shared → Prop)
    (hl : s.heap.IsTuple l items) (hb : s.heap.IsTuple b items2)
    (turn : ∀ i (h1 : i < items.size) (h2 : i < items2.size) s, I i s → wpAny (model prog w) A.in1 (eqBool items[i] items2[i]) (fun r s' => if r then I (i + 1) s' else Fl s') E s)
    (fin : ∀ s, I (min items.size items2.size) s → Q (.bool (items.size != items2.size)) s) (fal : ∀ s, Fl s → Q (.bool true) s) (h : I 0 s) : wpAny (model prog w) A (richCompare .NotEq (.ref l) (.ref b)) Q E s := by
  obtain ⟨⟨cls, dd, data, sl⟩, ho, hc, n, hd⟩ := id hl
  obtain ⟨⟨cls2, dd2, data2, sl2⟩, ho2, hc2, n2, hd2⟩ := id hb
  simp only at hc hd hc2 hd2
  subst hc hd hc2 hd2
  refine wpAny_richCompare_same_room (op := .NotEq) ⟨_, ho, rfl⟩ ⟨_, ho2, rfl⟩ F.slot_tuple_ne (call_here F.slot_tuple_ne ⟨_, ho, rfl⟩ F.entry_tuple_ne (F.args_tuple_ne_2 _ _) ?_) hu
  exact tuple_neB (R := wants (fun v s' => v ≠ .notImplemented ∧ Q v s') E) l b items items2 n n2 dd dd2 sl sl2 I Fl turn (fun s' q => ⟨(fun x => nomatch x), fin s' q⟩) (fun s' q => ⟨(fun x => nomatch x), fal s' q⟩) ho ho2 h
end
end GQ
namespace DL
open PySem PySem.Spec PyProof.Rows L2
variable [LamTab]
/-! ### == of lists and tuples with items of own classes -/
mutual
def solid : D → Bool
  | .non => true
  | .bl _ => true
  | .int _ => true
  | .str _ => true
  | .tup ds => solids ds
  | .lst ds => solids ds
  | .obj _ ds => solids ds
  | .loc _ => false
  | .val _ => false
  | .xob _ _ => false
  | .lam _ _ => false
  | .clo _ _ => false
def solids : List D → Bool
  | [] => true
  | d :: ds => solid d && solids ds
end
theorem relV_abs : ∀ {x : V} {u : Value}, RelV x u → absV u = some x
  | .non, _, h => by cases h; rfl
  | .bl _, _, h => by cases h; rfl
  | .int _, _, ⟨t, h⟩ => by cases h; rfl
  | .str _, _, ⟨t, h⟩ => by cases h; rfl
  | .byt _, _, ⟨t, h⟩ => by cases h; rfl
  | .flt _, _, ⟨t, h⟩ => by cases h; rfl
  | .ref _, _, h => by cases h; rfl
  | .ty _, _, h => by cases h; rfl
theorem relV_inj {x y : V} {u : Value} (h : RelV x u) (k : RelV y u) : x = y := Option.some.inj ((relV_abs h).symm.trans (relV_abs k))
theorem vals_inj : ∀ {xs ys : List V} {us : List Value}, Vals xs us → Vals ys us → xs = ys
  | _, _, _, .nil, .nil => rfl
  | _, _, _, .cons h r, .cons h' r' => by rw [relV_inj h h', vals_inj r r']
section
variable {X : Cx} {pins : List (Addr × Obj)} {σ : L2.St} {S : Wd} {m : Mu} {s : Shared}
theorem sqT_inj {H : Hp} (I : Inv X pins σ H s) {a : Addr} {xs ys : List V} (h : SqT X.K H a xs) (k : SqT X.K H a ys) : xs = ys := by
  obtain ⟨its, r, ⟨o, ho, hc, n, hd⟩, _⟩ := I.tuple h
  obtain ⟨its2, r2, ⟨o2, ho2, hc2, n2, hd2⟩, _⟩ := I.tuple k
  rw [ho] at ho2
  cases ho2
  rw [hd] at hd2
  injection hd2 with e1 e2
  have : its = its2 := by simpa using congrArg Array.toList e1
  subst this
  exact vals_inj r r2
theorem sqL_inj {H : Hp} (I : Inv X pins σ H s) {a : Addr} {xs ys : List V} (h : SqL X.K H a xs) (k : SqL X.K H a ys) : xs = ys := by
  obtain ⟨its, r, ⟨o, n, ho, hc, _, hd⟩, _⟩ := I.list h
  obtain ⟨its2, r2, ⟨o2, n2, ho2, hc2, _, hd2⟩, _⟩ := I.list k
  rw [ho] at ho2
  cases ho2
  rw [hd] at hd2
  injection hd2 with e1 e2
  have : its = its2 := by simpa using congrArg Array.toList e1
  subst this
  exact vals_inj r r2
theorem sq_no {H : Hp} (I : Inv X pins σ H s) {a : Addr} {xs ys : List V} (h : SqT X.K H a xs) (k : SqL X.K H a ys) : False := by
  obtain ⟨its, r, ⟨o, ho, hc, n, hd⟩, _⟩ := I.tuple h
  obtain ⟨its2, r2, ⟨o2, n2, ho2, hc2, _, hd2⟩, _⟩ := I.list k
  rw [ho] at ho2
  cases ho2
  rw [hc] at hc2
  injection hc2 with e
  exact absurd e (by decide)
theorem insT_no {H : Hp} (I : Inv X pins σ H s) {a C dx : Addr} {fs : List (Str × V)} {xs : List V} (h : SqT X.K H a xs) (k : H a = some (.ins C dx fs)) : False := by
  obtain ⟨its, r, ⟨o, ho, hc, n, hd⟩, _⟩ := I.tuple h
  obtain ⟨od, J⟩ := Inv.inst I k
  rw [J.at_] at ho
  cases ho
  cases hc
theorem insL_no {H : Hp} (I : Inv X pins σ H s) {a C dx : Addr} {fs : List (Str × V)} {xs : List V} (h : SqL X.K H a xs) (k : H a = some (.ins C dx fs)) : False := by
  obtain ⟨its, r, ⟨o, n, ho, hc, _, hd⟩, _⟩ := I.list h
  obtain ⟨od, J⟩ := Inv.inst I k
  rw [J.at_] at ho
  cases ho
  cases hc
mutual
theorem rep_inj (I : Inv X pins σ S.H s) (sa : Sta X.K S m) : ∀ (x : D) {y : D} {v : V}, solid x = true → solid y = true → Rep X.K S.i S.F x v → Rep X.K S.i S.F y v → x = y
  | .non, y, v, _, h, r, q => by cases r; cases q <;> first | rfl | simp [solid] at h
  | .bl b, y, v, _, h, r, q => by cases r; cases q <;> first | rfl | simp [solid] at h
  | .int b, y, v, _, h, r, q => by cases r; cases q <;> first | rfl | simp [solid] at h
  | .str b, y, v, _, h, r, q => by cases r; cases q <;> first | rfl | simp [solid] at h
  | .tup ds, y, v, g, h, r, q => by
    cases r with
    | tup h1 h2 =>
      cases q with
      | tup k1 k2 =>
        have e := sqT_inj I (SqT.ext' h1 sa.sub) (SqT.ext' k1 sa.sub)
        subst e
        rw [reps_inj I sa ds (by simpa [solid] using g) (by simpa [solid] using h) h2 k2]
      | lst k1 k2 => exact (sq_no I (SqT.ext' h1 sa.sub) (SqL.ext' k1 sa.sub)).elim
      | obj k1 k2 k3 => exact (insT_no I (SqT.ext' h1 sa.sub) (sa.sub _ _ k1)).elim
      | _ => simp [solid] at h
  | .lst ds, y, v, g, h, r, q => by
    cases r with
    | lst h1 h2 =>
      cases q with
      | lst k1 k2 =>
        have e := sqL_inj I (SqL.ext' h1 sa.sub) (SqL.ext' k1 sa.sub)
        subst e
        rw [reps_inj I sa ds (by simpa [solid] using g) (by simpa [solid] using h) h2 k2]
      | tup k1 k2 => exact (sq_no I (SqT.ext' k1 sa.sub) (SqL.ext' h1 sa.sub)).elim
      | obj k1 k2 k3 => exact (insL_no I (SqL.ext' h1 sa.sub) (sa.sub _ _ k1)).elim
      | _ => simp [solid] at h
  | .obj c ds, y, v, g, h, r, q => by
    cases r with
    | obj h1 h2 h3 =>
      cases q with
      | @obj c' ds' a' dx' vs' k1 k2 k3 =>
        rw [h1] at k1
        injection k1 with k1
        injection k1 with e1 e2 e3
        subst e3
        obtain ⟨a, ns⟩ := c
        obtain ⟨a', ns'⟩ := c'
        simp only at e1 h2 k2
        subst e1
        rw [← h2, ← k2, reps_inj I sa ds (by simpa [solid] using g) (by simpa [solid] using h) h3 k3]
      | tup k1 k2 => exact (insT_no I (SqT.ext' k1 sa.sub) (sa.sub _ _ h1)).elim
      | lst k1 k2 => exact (insL_no I (SqL.ext' k1 sa.sub) (sa.sub _ _ h1)).elim
      | _ => simp [solid] at h
  | .loc _, _, _, g, _, _, _ => by simp [solid] at g
  | .val _, _, _, g, _, _, _ => by simp [solid] at g
  | .xob _ _, _, _, g, _, _, _ => by simp [solid] at g
  | .lam _ _, _, _, g, _, _, _ => by simp [solid] at g
  | .clo _ _, _, _, g, _, _, _ => by simp [solid] at g
theorem reps_inj (I : Inv X pins σ S.H s) (sa : Sta X.K S m) : ∀ (xs : List D) {ys : List D} {vs : List V}, solids xs = true → solids ys = true → Reps X.K S.i S.F xs vs → Reps X.K S.i S.F ys vs → xs = ys
  | [], ys, vs, _, _, r, q => by cases r; cases q; rfl
  | x :: xs, ys, vs, g, h, r, q => by
    cases r with
    | cons h1 h2 =>
      cases q with
      | cons k1 k2 =>
        simp only [solids, Bool.and_eq_true] at g h
        rw [rep_inj I sa x g.1 h.1 h1 k1, reps_inj I sa xs g.2 h.2 h2 k2]
end
end

open Classical in
/-- a def's answer where it leaves the store as it is -/
noncomputable def pureB (r : Res D) (m : Mu) : Option Bool := match r with
  | .ok (.bl b) m1 => if m1 = m then some b else none
  | _ => none
def eqXs (f : D → D → Option Bool) : List D → List D → Option Bool
  | x :: xs, y :: ys => match f x y with
    | some true => eqXs f xs ys
    | some false => some false
    | none => none
  | _, _ => some true
open Classical in
/-- within a list or tuple: the same object is equal to itself -/
noncomputable def eqI (f : D → D → Option Bool) (x y : D) : Option Bool := if solid x = true ∧ solid y = true then (match f x y with
  | some b => if (x = y → b = true) then some b else none
  | none => none) else none
noncomputable def eqX (rows : List (Kl × DFn × List Tg)) (m : Mu) : Nat → D → D → Option Bool
  | 0, _, _ => none
  | n + 1, x, y => match insOf m x with
    | some (C, ns, _) => (match eqRow rows C ns, tagOf m y with
      | some (G, ts), some t => if t ∈ ts then pureB (G [x, y] m) m else none
      | _, _ => none)
    | none => match seqL m x, seqL m y with
      | some xs, some ys => if xs.length = ys.length then eqXs (eqI (eqX rows m n)) xs ys else some false
      | _, _ => match seqT x, seqT y with
        | some xs, some ys => (eqXs (eqI (eqX rows m n)) xs ys).map fun b => b && decide (xs.length = ys.length)
        | _, _ => match pyOf m x, pyOf m y with
          | some d, some e => if SeqAt.shaped d && SeqAt.shaped e then some (PyData.eqv d e) else none
          | _, _ => none
noncomputable def gEqX (neg : Bool) (rows : List (Kl × DFn × List Tg)) (n : Nat) : D2 := fun x y m => match eqX rows m n x y with
  | some b => .ok (.bl (neg ^^ b)) m
  | none => .stuck
section
variable {X : Cx} {k : Nat} {rows : List (Kl × DFn × List Tg)}
/-- the state of a comparison: further on, the same data -/
def At (X : Cx) (pins : List (Addr × Obj)) (σ : L2.St) (S : Wd) (m : Mu) (s : Shared) : Prop := ∃ T, Stp S T ∧ Sta X.K T m ∧ Inv X pins σ T.H s
theorem pureB_some {r : Res D} {m : Mu} {b : Bool} (h : pureB r m = some b) : r = .ok (.bl b) m := by
  unfold pureB at h
  split at h
  · rename_i b' m1
    split at h
    · rename_i e; cases h; rw [e]
    · cases h
  · cases h
theorem eqI_some {f : D → D → Option Bool} {x y : D} {b : Bool} (h : eqI f x y = some b) : solid x = true ∧ solid y = true ∧ f x y = some b ∧ (x = y → b = true) := by
  unfold eqI at h
  split at h
  · rename_i hs
    cases q : f x y with
    | none => rw [q] at h; cases h
    | some b' =>
      rw [q] at h
      dsimp only at h
      split at h
      · rename_i e; cases h; exact ⟨hs.1, hs.2, rfl, e⟩
      · cases h
  · cases h
def EqIt (X : Cx) (k : Nat) (f : Mu → D → D → Option Bool) : Prop := ∀ (A : Around) (pins : List (Addr × Obj)) (σ : L2.St) (S : Wd) (m : Mu) (x y : D) (vx vy : V) (u w : Value) (s : Shared) (b : Bool), Room k A → A.frames = X.A.frames → Sta X.K S m → Rep X.K S.i S.F x vx → Rep X.K S.i S.F y vy → Inv X pins σ S.H s → RelV vx u → RelV vy w →
  f m x y = some b → wpAny (model X.prog X.w) A (eqBool u w) (fun r s' => r = b ∧ At X pins σ S m s') X.xe s
def RcIt (X : Cx) (k : Nat) (neg : Bool) (f : Mu → D → D → Option Bool) : Prop := ∀ (A : Around) (pins : List (Addr × Obj)) (σ : L2.St) (S : Wd) (m : Mu) (x y : D) (vx vy : V) (u w : Value) (s : Shared) (b : Bool), Room k A → A.frames = X.A.frames → Sta X.K S m → Rep X.K S.i S.F x vx → Rep X.K S.i S.F y vy → Inv X pins σ S.H s → RelV vx u → RelV vy w →
  f m x y = some b → wpAny (model X.prog X.w) A (compareOp (if neg then .NotEq else .Eq) u w) (fun r s' => r = .bool (neg ^^ b) ∧ At X pins σ S m s') X.xe s
/-- what the walk over the items keeps -/
def LpI (X : Cx) (pins : List (Addr × Obj)) (σ : L2.St) (S : Wd) (m : Mu) (f : D → D → Option Bool) (xs ys : List D) (b : Bool) (i : Nat) (s : Shared) : Prop := At X pins σ S m s ∧ eqXs f (xs.drop i) (ys.drop i) = some b
theorem lp_turn {f : Mu → D → D → Option Bool} (hf : EqIt X k f) {A : Around} (hr : Room k A.in1) (hA : A.frames = X.A.frames) {pins : List (Addr × Obj)} {σ : L2.St} {S T : Wd} {m : Mu} {xs ys : List D} {vs us : List V} {its its2 : List Value} {b : Bool} {s : Shared}
    (st : Stp S T) (sa : Sta X.K T m) (I : Inv X pins σ T.H s) (r : Reps X.K T.i T.F xs vs) (q : Reps X.K T.i T.F ys us) (rv : Vals vs its) (qv : Vals us its2)
    (i : Nat) (h1 : i < its.toArray.size) (h2 : i < its2.toArray.size) (he : eqXs (f m) (xs.drop i) (ys.drop i) = some b) :
    wpAny (model X.prog X.w) A.in1 (eqBool its.toArray[i] its2.toArray[i]) (fun r s' => if r then LpI X pins σ S m (f m) xs ys b (i + 1) s' else b = false ∧ At X pins σ S m s') X.xe s := by
  have g1 : i < its.length := by simpa using h1
  have g2 : i < its2.length := by simpa using h2
  have k1 : i < vs.length := by rw [rv.length]; exact g1
  have k2 : i < us.length := by rw [qv.length]; exact g2
  have j1 : i < xs.length := by rw [r.len]; exact k1
  have j2 : i < ys.length := by rw [q.len]; exact k2
  obtain ⟨u, hu, ru⟩ := rv.get (List.getElem?_eq_getElem k1)
  obtain ⟨w, hw, rw'⟩ := qv.get (List.getElem?_eq_getElem k2)
  obtain ⟨v1, e1, rx⟩ := r.get (List.getElem?_eq_getElem j1)
  obtain ⟨v2, e2, ry⟩ := q.get (List.getElem?_eq_getElem j2)
  rw [List.getElem?_eq_getElem k1] at e1
  rw [List.getElem?_eq_getElem k2] at e2
  cases e1
  cases e2
  rw [List.drop_eq_getElem_cons j1, List.drop_eq_getElem_cons j2] at he
  unfold eqXs at he
  have c1 : its.toArray[i] = u := by
    rw [List.getElem?_eq_getElem g1] at hu
    simpa using Option.some.inj hu
  have c2 : its2.toArray[i] = w := by
    rw [List.getElem?_eq_getElem g2] at hw
    simpa using Option.some.inj hw
  rw [c1, c2]
  cases hb : f m xs[i] ys[i] with
  | none => rw [hb] at he; cases he
  | some b' =>
    rw [hb] at he
    refine wpAny_mono (hf A.in1 pins σ T m _ _ _ _ u w s b' hr hA sa rx ry I ru rw' hb) (fun r s' z => ?_) fun _ _ x => x
    obtain ⟨rfl, U, st2, sa2, I2⟩ := z
    cases r with
    | true => exact ⟨⟨U, st.trans st2, sa2, I2⟩, he⟩
    | false => exact ⟨(Option.some.inj he).symm, U, st.trans st2, sa2, I2⟩
theorem eqXs_nil_l {f : D → D → Option Bool} {ys : List D} : eqXs f [] ys = some true := by unfold eqXs; rfl
theorem eqXs_nil_r {f : D → D → Option Bool} {xs : List D} : eqXs f xs [] = some true := by cases xs <;> (unfold eqXs; rfl)
theorem lp_end {f : D → D → Option Bool} {xs ys : List D} {b : Bool} {i : Nat} (h : min xs.length ys.length ≤ i) (he : eqXs f (xs.drop i) (ys.drop i) = some b) : b = true := by
  by_cases hx : xs.length ≤ i
  · rw [List.drop_of_length_le hx, eqXs_nil_l] at he; exact (Option.some.inj he).symm
  · rw [List.drop_of_length_le (by omega : ys.length ≤ i), eqXs_nil_r] at he; exact (Option.some.inj he).symm
theorem eqBool_refW {prog : Program} {w : World} {A : Around} {E : Value → Shared → Prop} {s : Shared} {l : Addr} {b : Value} {Q : Bool → Shared → Prop} (hne : Value.ref l ≠ b) (h : wpAny (model prog w) A (richCompare .Eq (.ref l) b) (fun v s' => ∃ r, v = .bool r ∧ Q r s') E s) : wpAny (model prog w) A (eqBool (.ref l) b) Q E s := by
  unfold eqBool
  refine wpAny_holding ?_
  refine wpAny_ite_split (fun hab => absurd (eq_of_beq hab) hne) (fun _ => ?_)
  refine wpAny_bind (wpAny_mono h (fun v s' hv => ?_) fun _ _ x => x)
  obtain ⟨r, rfl, q⟩ := hv
  exact wpAny_truthy_bool q
theorem rc_obj (hrows : ∀ r ∈ rows, EqOk X.prog X.w X.K X.mg X.base k r) {A : Around} (hr : Room k A) (hA : A.frames = X.A.frames) {pins : List (Addr × Obj)} {σ : L2.St} {S : Wd} {m : Mu} {x y : D} {vx vy : V} {u w : Value} {s : Shared} {b : Bool} (sa : Sta X.K S m) (rx : Rep X.K S.i S.F x vx) (ry : Rep X.K S.i S.F y vy) (I : Inv X pins σ S.H s) (hu : RelV vx u) (hw : RelV vy w)
    {C : Addr} {ns : List Str} {ds : List D} (ei : insOf m x = some (C, ns, ds)) {G : DFn} {ts : List Tg} {t : Tg} (eG : eqRow rows C ns = some (G, ts)) (eT : tagOf m y = some t) (ht : t ∈ ts) (h : G [x, y] m = .ok (.bl b) m) :
    ∃ a, u = .ref a ∧ wpAny (model X.prog X.w) A (richCompare .Eq u w) (fun r s' => r = .bool b ∧ At X pins σ S m s') X.xe s := by
  obtain ⟨c, ok, rfl, rfl⟩ := eqRow_ok (P := EqOk X.prog X.w X.K X.mg X.base k) hrows eG
  obtain ⟨a, dx, vs, rfl, h1, h2, h3⟩ := insOf_ok sa rx ei
  obtain ⟨f, fd, ps, dds, G0, hf1, hf2, hk, hf, hb, e⟩ := ok.mt.ex
  have e : G = padF ps.length dds G0 := e
  subst e
  obtain rfl : u = Value.ref a := hu
  refine ⟨a, rfl, ?_⟩
  obtain ⟨od1, J1⟩ := Inv.inst I h1
  obtain ⟨mm, F⟩ := I.fr
  refine PySem.W.cmp_K (op := .Eq) hr.units0 F I.ok.mod.kin J1 (tag_looks I sa ry hw eT) (ok.nf t ht) hf1 hf2 (thn (run_fnA (us := [.ref a, w]) (Q := fun v H => v = .bl b ∧ ∃ T, T.H = H ∧ Stp S T ∧ Sta X.K T m) hf hr hb hA I sa (.cons rx (.cons ry .nil)) (.cons rfl (.cons hw .nil)) ?_) fun v s1 hq => ?_)
  · rw [h]
    intro v T st sa1 rv
    cases rv
    exact ⟨rfl, T, rfl, st, sa1⟩
  · obtain ⟨y', H', I', r, rfl, T, rfl, st, sa1⟩ := hq
    cases r
    exact ⟨rfl, T, st, sa1, I'⟩
theorem at_refl {pins : List (Addr × Obj)} {σ : L2.St} {S : Wd} {m : Mu} {s : Shared} (sa : Sta X.K S m) (I : Inv X pins σ S.H s) : At X pins σ S m s := ⟨S, Stp.refl S, sa, I⟩
/-- two lists -/
theorem rc_lists {f : Mu → D → D → Option Bool} (hf : EqIt X k f) {neg : Bool} {A : Around} (hr : Room (k + 1) A) (hA : A.frames = X.A.frames) {pins : List (Addr × Obj)} {σ : L2.St} {S : Wd} {m : Mu} {x y : D} {vx vy : V} {u w : Value} {s : Shared} {b : Bool} (sa : Sta X.K S m) (rx : Rep X.K S.i S.F x vx) (ry : Rep X.K S.i S.F y vy) (I : Inv X pins σ S.H s) (hu : RelV vx u) (hw : RelV vy w)
    {xs ys : List D} (ex : seqL m x = some xs) (ey : seqL m y = some ys) (h : (if xs.length = ys.length then eqXs (f m) xs ys else some false) = some b) :
    ∃ a c, u = .ref a ∧ w = .ref c ∧ wpAny (model X.prog X.w) A (richCompare (if neg then .NotEq else .Eq) u w) (fun r s' => r = .bool (neg ^^ b) ∧ At X pins σ S m s') X.xe s := by
  obtain ⟨a, vs, rfl, sx, rvs⟩ := seqL_ok sa rx ex
  obtain ⟨c, us, rfl, sy, rus⟩ := seqL_ok sa ry ey
  obtain rfl : u = Value.ref a := hu
  obtain rfl : w = Value.ref c := hw
  refine ⟨a, c, rfl, rfl, ?_⟩
  split at h
  · rename_i hl
    have LB : GQ.ListB X.prog X.w A X.xe a c xs.length (LpI X pins σ S m (f m) xs ys b) (fun s' => b = false ∧ At X pins σ S m s') := by
      rintro i s' ⟨⟨T, st, saT, IT⟩, he⟩
      obtain ⟨a', vs', e1, sx', rvs'⟩ := seqL_ok saT (rx.stp st) ex
      obtain ⟨c', us', e2, sy', rus'⟩ := seqL_ok saT (ry.stp st) ey
      cases e1
      cases e2
      obtain ⟨its, qv, ⟨⟨cl, dd, dt, sl⟩, n, ho, hc, hd, hdt⟩, _⟩ := IT.list sx'
      obtain ⟨its2, qu, ⟨⟨cl2, dd2, dt2, sl2⟩, n2, ho2, hc2, hd2, hdt2⟩, _⟩ := IT.list sy'
      simp only at hc hd hdt hc2 hd2 hdt2
      subst hc hdt hc2 hdt2
      have z1 : its.toArray.size = xs.length := by rw [List.size_toArray, ← qv.length, ← rvs'.len]
      have z2 : its2.toArray.size = xs.length := by rw [List.size_toArray, ← qu.length, ← rus'.len, hl]
      refine ⟨its.toArray, its2.toArray, n, n2, dd, dd2, sl, sl2, ho, ho2, z1, z2, fun h1 h2 => ?_⟩
      refine wpAny_mono (lp_turn hf hr.in1 hA st saT IT rvs' rus' qv qu i h1 h2 he) (fun r s2 z => ?_) fun _ _ x => x
      cases r with
      | true => exact z
      | false =>
        obtain ⟨rfl, U, st2, sa2, I2⟩ := (z : b = false ∧ At X pins σ S m s2)
        obtain ⟨a', vs2, e1, sx2, rvs2⟩ := seqL_ok sa2 (rx.stp st2) ex
        obtain ⟨c', us2, e2, sy2, rus2⟩ := seqL_ok sa2 (ry.stp st2) ey
        cases e1
        cases e2
        obtain ⟨its3, qv3, ⟨⟨cl, dd, dt, sl⟩, n, ho, hc, hd, hdt⟩, _⟩ := I2.list sx2
        obtain ⟨its4, qu4, ⟨⟨cl2, dd2, dt2, sl2⟩, n2, ho2, hc2, hd2, hdt2⟩, _⟩ := I2.list sy2
        simp only at hc hd hdt hc2 hd2 hdt2
        subst hc hdt hc2 hdt2
        exact ⟨⟨rfl, U, st2, sa2, I2⟩, its3.toArray, its4.toArray, n, n2, dd, dd2, sl, sl2, ho, ho2, by rw [List.size_toArray, ← qv3.length, ← rvs2.len], by rw [List.size_toArray, ← qu4.length, ← rus2.len, hl]⟩
    have h0 : LpI X pins σ S m (f m) xs ys b 0 s := ⟨at_refl sa I, by simpa using h⟩
    have fin : ∀ s', LpI X pins σ S m (f m) xs ys b xs.length s' → b = true ∧ At X pins σ S m s' := fun s' z => ⟨lp_end (by omega) z.2, z.1⟩
    cases neg with
    | false => exact GQ.rc_listB hr.units0 _ _ LB (fun s' z => by obtain ⟨rfl, q⟩ := fin s' z; exact ⟨rfl, q⟩) (fun s' z => by obtain ⟨rfl, q⟩ := z; exact ⟨rfl, q⟩) h0
    | true => exact GQ.rc_listNe hr.units0 _ _ LB (fun s' z => by obtain ⟨rfl, q⟩ := fin s' z; exact ⟨rfl, q⟩) (fun s' z => by obtain ⟨rfl, q⟩ := z; exact ⟨rfl, q⟩) h0
  · rename_i hl
    cases h
    obtain ⟨its, qv, ⟨⟨cl, dd, dt, sl⟩, n, ho, hc, hd, hdt⟩, _⟩ := I.list sx
    obtain ⟨its2, qu, ⟨⟨cl2, dd2, dt2, sl2⟩, n2, ho2, hc2, hd2, hdt2⟩, _⟩ := I.list sy
    simp only at hc hd hdt hc2 hd2 hdt2
    subst hc hdt hc2 hdt2
    have hsz : its.toArray.size ≠ its2.toArray.size := by rw [List.size_toArray, List.size_toArray, ← qv.length, ← rvs.len, ← qu.length, ← rus.len]; exact hl
    cases neg with
    | false => exact GQ.rc_listL hr.units0 ho ho2 hsz ⟨rfl, at_refl sa I⟩
    | true => exact GQ.rc_listLNe hr.units0 ho ho2 hsz ⟨rfl, at_refl sa I⟩
theorem rc_tups {f : Mu → D → D → Option Bool} (hf : EqIt X k f) {neg : Bool} {A : Around} (hr : Room (k + 1) A) (hA : A.frames = X.A.frames) {pins : List (Addr × Obj)} {σ : L2.St} {S : Wd} {m : Mu} {x y : D} {vx vy : V} {u w : Value} {s : Shared} {b : Bool} (sa : Sta X.K S m) (rx : Rep X.K S.i S.F x vx) (ry : Rep X.K S.i S.F y vy) (I : Inv X pins σ S.H s) (hu : RelV vx u) (hw : RelV vy w)
    {xs ys : List D} (ex : seqT x = some xs) (ey : seqT y = some ys) (h : (eqXs (f m) xs ys).map (fun b => b && decide (xs.length = ys.length)) = some b) :
    ∃ a c, u = .ref a ∧ w = .ref c ∧ wpAny (model X.prog X.w) A (richCompare (if neg then .NotEq else .Eq) u w) (fun r s' => r = .bool (neg ^^ b) ∧ At X pins σ S m s') X.xe s := by
  obtain ⟨a, vs, rfl, sx, rvs⟩ := seqT_ok sa rx ex
  obtain ⟨c, us, rfl, sy, rus⟩ := seqT_ok sa ry ey
  obtain rfl : u = Value.ref a := hu
  obtain rfl : w = Value.ref c := hw
  refine ⟨a, c, rfl, rfl, ?_⟩
  cases he : eqXs (f m) xs ys with
  | none => rw [he] at h; cases h
  | some b0 =>
    rw [he] at h
    have h : (b0 && decide (xs.length = ys.length)) = b := Option.some.inj h
    obtain ⟨its, qv, hT, _⟩ := I.tuple sx
    obtain ⟨its2, qu, hT2, _⟩ := I.tuple sy
    have z1 : its.toArray.size = xs.length := by rw [List.size_toArray, ← qv.length, ← rvs.len]
    have z2 : its2.toArray.size = ys.length := by rw [List.size_toArray, ← qu.length, ← rus.len]
    have turn : ∀ i (h1 : i < its.toArray.size) (h2 : i < its2.toArray.size) s', LpI X pins σ S m (f m) xs ys b0 i s' → wpAny (model X.prog X.w) A.in1 (eqBool its.toArray[i] its2.toArray[i]) (fun r s' => if r then LpI X pins σ S m (f m) xs ys b0 (i + 1) s' else b0 = false ∧ At X pins σ S m s') X.xe s' := by
      rintro i h1 h2 s' ⟨⟨T, st, saT, IT⟩, he'⟩
      exact lp_turn hf hr.in1 hA st saT IT (rvs.stp st) (rus.stp st) qv qu i h1 h2 he'
    have h0 : LpI X pins σ S m (f m) xs ys b0 0 s := ⟨at_refl sa I, by simpa using he⟩
    have fin : ∀ s', LpI X pins σ S m (f m) xs ys b0 (min its.toArray.size its2.toArray.size) s' → b0 = true ∧ At X pins σ S m s' := fun s' z => ⟨lp_end (by omega) z.2, z.1⟩
    have hsz : (its.toArray.size == its2.toArray.size) = decide (xs.length = ys.length) := by rw [z1, z2]; rfl
    have hszn : (its.toArray.size != its2.toArray.size) = !decide (xs.length = ys.length) := by rw [z1, z2]; rfl
    cases neg with
    | false => exact GQ.rc_tupB hr.units0 _ (fun s' => b0 = false ∧ At X pins σ S m s') hT hT2 turn (fun s' z => by obtain ⟨rfl, q⟩ := fin s' z; exact ⟨by rw [hsz, ← h]; simp, q⟩) (fun s' z => by obtain ⟨rfl, q⟩ := z; exact ⟨by rw [← h]; simp, q⟩) h0
    | true => exact GQ.rc_tupNe hr.units0 _ (fun s' => b0 = false ∧ At X pins σ S m s') hT hT2 turn (fun s' z => by obtain ⟨rfl, q⟩ := fin s' z; exact ⟨by rw [hszn, ← h]; simp, q⟩) (fun s' z => by obtain ⟨rfl, q⟩ := z; exact ⟨by rw [← h]; simp, q⟩) h0
theorem eqIt_X (hrows : ∀ r ∈ rows, EqOk X.prog X.w X.K X.mg X.base k r) : ∀ n : Nat, EqIt X (k + n) (fun m => eqI (eqX rows m n))
  | 0 => by
    intro A pins σ S m x y vx vy u w s b hr hA sa rx ry I hu hw h
    obtain ⟨_, _, h, _⟩ := eqI_some h
    unfold eqX at h; cases h
  | n + 1 => by
    have ih := eqIt_X hrows n
    intro A pins σ S m x y vx vy u w s b hr hA sa rx ry I hu hw h
    obtain ⟨s1, s2, h, hxy⟩ := eqI_some h
    have same : ∀ a, u = .ref a → w = .ref a → b = true := fun a e1 e2 => by
      subst e1; subst e2
      have := relV_inj hu hw
      subst this
      exact hxy (rep_inj I sa x s1 s2 rx ry)
    have done : ∀ a, u = .ref a → wpAny (model X.prog X.w) A (richCompare .Eq u w) (fun r s' => r = .bool b ∧ At X pins σ S m s') X.xe s → wpAny (model X.prog X.w) A (eqBool u w) (fun r s' => r = b ∧ At X pins σ S m s') X.xe s := fun a e hh => by
      subst e
      by_cases hab : Value.ref a = w
      · subst hab
        have := same a rfl rfl
        subst this
        exact SeqAt.EqAt.same (A := A) (s := s) (.ref a) X.prog X.w X.xe _ ⟨rfl, at_refl sa I⟩
      · exact eqBool_refW hab (wpAny_mono hh (fun r s' z => ⟨b, z.1, rfl, z.2⟩) fun _ _ x => x)
    unfold eqX at h
    split at h
    · rename_i C ns ds ei
      split at h
      · rename_i G ts t eG eT
        split at h
        · rename_i ht
          obtain ⟨a, e, q⟩ := rc_obj hrows (hr.mono (by omega)) hA sa rx ry I hu hw ei eG eT ht (pureB_some h)
          exact done a e q
        · cases h
      · cases h
    · split at h
      · rename_i xs ys ex ey
        obtain ⟨a, c, e1, e2, q⟩ := rc_lists (neg := false) ih hr hA sa rx ry I hu hw ex ey h
        exact done a e1 (wpAny_mono q (fun r s' z => ⟨by rw [z.1, Bool.false_xor], z.2⟩) fun _ _ x => x)
      · split at h
        · rename_i xs ys ex ey
          obtain ⟨a, c, e1, e2, q⟩ := rc_tups (neg := false) ih hr hA sa rx ry I hu hw ex ey h
          exact done a e1 (wpAny_mono q (fun r s' z => ⟨by rw [z.1, Bool.false_xor], z.2⟩) fun _ _ x => x)
        · split at h
          · rename_i d e e1 e2
            split at h
            · rename_i hs
              obtain ⟨h1, h2⟩ := Bool.and_eq_true_iff.mp hs
              cases h
              obtain ⟨as, r1⟩ := Dp.reads I d vx u (pyOf_ok sa rx e1) hu
              obtain ⟨bs, r2⟩ := Dp.reads I e vy w (pyOf_ok sa ry e2) hw
              exact SeqAt.eqAt_reads d e A s u w as bs r1 r2 (SeqAt.canLay_of_shaped h1) (SeqAt.canLay_of_shaped h2) (SeqAt.room_of_shaped h1 hr.units) X.prog X.w X.xe _ ⟨rfl, at_refl sa I⟩
            · cases h
          · cases h
theorem od_eqX (hrows : ∀ r ∈ rows, EqOk X.prog X.w X.K X.mg X.base k r) (n : Nat) (hr : Room (k + n) X.A) : OD X (compareOp .Eq) (gEqX false rows n) := by
  intro pins s σ S m x y vx vy u w Q sa rx ry I hu hw p
  unfold gEqX at p
  split at p
  · rename_i b hb
    have fin : wpAny (model X.prog X.w) X.A (richCompare .Eq u w) (fun r s' => r = .bool b ∧ At X pins σ S m s') X.xe s → wpAny (model X.prog X.w) X.A (compareOp .Eq u w) (EP X pins σ Q) X.xe s := fun z => by
      refine wpAny_mono z (fun r s' q => ?_) fun _ _ x => x
      obtain ⟨rfl, T, st, sa1, I1⟩ := q
      rw [Bool.false_xor] at p
      exact ⟨.bl b, T.H, I1, rfl, Post.ok p st sa1 (.bl b)⟩
    cases n with
    | zero => unfold eqX at hb; cases hb
    | succ n =>
      have ih := eqIt_X hrows n
      unfold eqX at hb
      split at hb
      · rename_i C ns ds ei
        split at hb
        · rename_i G ts t eG eT
          split at hb
          · rename_i ht
            obtain ⟨a, e, q⟩ := rc_obj hrows (hr.mono (by omega)) rfl sa rx ry I hu hw ei eG eT ht (pureB_some hb)
            exact fin q
          · cases hb
        · cases hb
      · split at hb
        · rename_i xs ys ex ey
          obtain ⟨a, c, e1, e2, q⟩ := rc_lists (neg := false) ih hr rfl sa rx ry I hu hw ex ey hb
          exact fin (wpAny_mono q (fun r s' z => ⟨by rw [z.1, Bool.false_xor], z.2⟩) fun _ _ x => x)
        · split at hb
          · rename_i xs ys ex ey
            obtain ⟨a, c, e1, e2, q⟩ := rc_tups (neg := false) ih hr rfl sa rx ry I hu hw ex ey hb
            exact fin (wpAny_mono q (fun r s' z => ⟨by rw [z.1, Bool.false_xor], z.2⟩) fun _ _ x => x)
          · split at hb
            · rename_i d e e1 e2
              split at hb
              · rename_i hs
                obtain ⟨h1, h2⟩ := Bool.and_eq_true_iff.mp hs
                cases hb
                obtain ⟨as, r1⟩ := Dp.reads I d vx u (pyOf_ok sa rx e1) hu
                obtain ⟨bs, r2⟩ := Dp.reads I e vy w (pyOf_ok sa ry e2) hw
                exact fin (SeqAt.compareEq_shaped r1 r2 h1 h2 hr.units ⟨rfl, at_refl sa I⟩)
              · cases hb
            · cases hb
  · exact p.elim
/-- !=, of lists, tuples and plain data -/
noncomputable def gNeX (rows : List (Kl × DFn × List Tg)) (n : Nat) : D2 := fun x y m => match insOf m x with
  | some _ => .stuck
  | none => gEqX true rows n x y m
theorem od_neX (hrows : ∀ r ∈ rows, EqOk X.prog X.w X.K X.mg X.base k r) (n : Nat) (hr : Room (k + n) X.A) : OD X (compareOp .NotEq) (gNeX rows n) := by
  intro pins s σ S m x y vx vy u w Q sa rx ry I hu hw p
  unfold gNeX at p
  split at p
  · exact p.elim
  rename_i hins
  unfold gEqX at p
  split at p
  · rename_i b hb
    have fin : wpAny (model X.prog X.w) X.A (richCompare .NotEq u w) (fun r s' => r = .bool (true ^^ b) ∧ At X pins σ S m s') X.xe s → wpAny (model X.prog X.w) X.A (compareOp .NotEq u w) (EP X pins σ Q) X.xe s := fun z => by
      refine wpAny_mono z (fun r s' q => ?_) fun _ _ x => x
      obtain ⟨rfl, T, st, sa1, I1⟩ := q
      exact ⟨.bl (true ^^ b), T.H, I1, rfl, Post.ok p st sa1 (.bl _)⟩
    cases n with
    | zero => unfold eqX at hb; cases hb
    | succ n =>
      have ih := eqIt_X hrows n
      unfold eqX at hb
      rw [hins] at hb
      dsimp only at hb
      split at hb
      · rename_i xs ys ex ey
        obtain ⟨a, c, e1, e2, q⟩ := rc_lists (neg := true) ih hr rfl sa rx ry I hu hw ex ey hb
        exact fin q
      · split at hb
        · rename_i xs ys ex ey
          obtain ⟨a, c, e1, e2, q⟩ := rc_tups (neg := true) ih hr rfl sa rx ry I hu hw ex ey hb
          exact fin q
        · split at hb
          · rename_i d e e1 e2
            split at hb
            · rename_i hs
              obtain ⟨h1, h2⟩ := Bool.and_eq_true_iff.mp hs
              cases hb
              obtain ⟨as, r1⟩ := Dp.reads I d vx u (pyOf_ok sa rx e1) hu
              obtain ⟨bs, r2⟩ := Dp.reads I e vy w (pyOf_ok sa ry e2) hw
              exact fin (SeqAt.compareNe_shaped r1 r2 h1 h2 hr.units ⟨by rw [Bool.true_xor], at_refl sa I⟩)
            · cases hb
          · cases hb
  · exact p.elim
end
end DL
namespace DL
open PySem PySem.Spec L2
variable [LamTab]
/-! ### equations -/
section
variable {rows : List (Kl × DFn × List Tg)} {m : Mu} {n : Nat}
theorem eqX_lst (xs ys : List D) : eqX rows m (n + 1) (.lst xs) (.lst ys) = if xs.length = ys.length then eqXs (eqI (eqX rows m n)) xs ys else some false := by unfold eqX; rfl
theorem eqX_tup (xs ys : List D) : eqX rows m (n + 1) (.tup xs) (.tup ys) = (eqXs (eqI (eqX rows m n)) xs ys).map fun b => b && decide (xs.length = ys.length) := by rw [eqX.eq_def]; rfl
theorem eqX_obj (c : Kl) (ds : List D) (y : D) : eqX rows m (n + 1) (.obj c ds) y = (match eqRow rows c.a c.ns, tagOf m y with
      | some (G, ts), some t => if t ∈ ts then pureB (G [.obj c ds, y] m) m else none
      | _, _ => none) := by rw [eqX.eq_def]; rfl
theorem eqX_int (i j : Int) : eqX rows m (n + 1) (.int i) (.int j) = some (decide (i = j)) := by
  rw [eqX.eq_def]
  simp only [insOf, seqL, seqT, pyOf, thaw1, toPy]
  rw [if_pos (by rfl)]
  rfl
@[simp] theorem pureB_ok (b : Bool) (m : Mu) : pureB (.ok (.bl b) m) m = some b := by simp [pureB]
theorem eqXs_map {α : Type} [DecidableEq α] {F : α → D} {f : D → D → Option Bool} : ∀ {as bs : List α}, (∀ a ∈ as, ∀ b ∈ bs, f (F a) (F b) = some (decide (a = b))) → as.length = bs.length → eqXs f (as.map F) (bs.map F) = some (decide (as = bs))
  | [], [], _, _ => rfl
  | [], _ :: _, _, h => by simp at h
  | _ :: _, [], _, h => by simp at h
  | a :: as, b :: bs, h, hl => by
    have ih := eqXs_map (as := as) (bs := bs) (f := f) (F := F) (fun x hx y hy => h x (by simp [hx]) y (by simp [hy])) (by simpa using hl)
    simp only [List.map_cons, eqXs, h a (by simp) b (by simp)]
    by_cases e : a = b
    · simp [e, ih]
    · simp [e]
theorem eqI_map {α : Type} [DecidableEq α] {F : α → D} {f : D → D → Option Bool} {a b : α} (hi : F a = F b → a = b) (h1 : solid (F a) = true) (h2 : solid (F b) = true) (h : f (F a) (F b) = some (decide (a = b))) : eqI f (F a) (F b) = some (decide (a = b)) := by
  unfold eqI
  rw [if_pos ⟨h1, h2⟩, h]
  dsimp only
  rw [if_pos (fun e => by simpa using hi e)]
theorem eqI_of {f : D → D → Option Bool} {x y : D} {b : Bool} (h1 : solid x = true) (h2 : solid y = true) (h : f x y = some b) (hi : x = y → b = true) : eqI f x y = some b := by
  unfold eqI
  rw [if_pos ⟨h1, h2⟩, h]
  dsimp only
  rw [if_pos hi]
theorem eqX_lmap {α : Type} [DecidableEq α] {F : α → D} {as bs : List α} (hi : ∀ a b, F a = F b → a = b) (hs : ∀ a, solid (F a) = true) (h : ∀ a ∈ as, ∀ b ∈ bs, eqX rows m n (F a) (F b) = some (decide (a = b))) :
    eqX rows m (n + 1) (.lst (as.map F)) (.lst (bs.map F)) = some (decide (as = bs)) := by
  rw [eqX_lst]
  by_cases hl : as.length = bs.length
  · rw [if_pos (by simpa using hl), eqXs_map (fun a ha b hb => eqI_map (hi a b) (hs a) (hs b) (h a ha b hb)) hl]
  · rw [if_neg (by simpa using hl)]
    have : ¬ as = bs := fun e => hl (by rw [e])
    simp [this]
theorem gEqX_of {neg : Bool} {x y : D} {b : Bool} (h : eqX rows m n x y = some b) : gEqX neg rows n x y m = .ok (.bl (neg ^^ b)) m := by unfold gEqX; rw [h]
theorem gNeX_of {x y : D} {b : Bool} (hx : insOf m x = none) (h : eqX rows m n x y = some b) : gNeX rows n x y m = .ok (.bl (!b)) m := by unfold gNeX; rw [hx]; dsimp only; rw [gEqX_of h, Bool.true_xor]
end
end DL

namespace DL
open PySem PySem.Spec PyProof.Rows L2
variable [LamTab]
section
variable {X : Cx} {k : Nat}
/-! ### len of own classes -/
def dLenO (rows : List (Kl × DFn)) : DFn := fun ds m => match ds with
  | [x] => match insOf m x with
    | some (C, ns, _) => match methAt rows C ns with
      | some G => (G [x] m).bind fun r m1 => match r with
        | .int n => if 0 ≤ n ∧ n < 2 ^ 63 then .ok (.int n) m1 else .stuck
        | _ => .stuck
      | none => .stuck
    | none => .stuck
  | _ => .stuck
theorem oc_lenO {rows : List (Kl × DFn)} (hrows : ∀ r ∈ rows, MRow X.prog X.w X.K X.mg X.base k "__len__" r.1 r.2) (hr : Room (k + 1) X.A) : OC X (.builtin "len") (dLenO rows) := by
  intro pins s σ S m ds xs us Q sa r rv I p
  match ds, xs, us, r, rv with
  | [x], [vx], [u], .cons rx .nil, .cons hu .nil =>
    unfold dLenO at p
    dsimp only at p
    split at p
    · rename_i C ns ds ei
      split at p
      · rename_i G eG
        obtain ⟨c, ok, rfl, rfl⟩ := methAt_ok (P := MRow X.prog X.w X.K X.mg X.base k "__len__") hrows eG
        obtain ⟨a, dx, vs, rfl, h1, h2, h3⟩ := insOf_ok sa rx ei
        obtain ⟨f, fd, ps, dds, G0, hf1, hf2, hk, hf, hb, rfl⟩ := ok.ex
        obtain rfl : u = Value.ref a := hu
        obtain ⟨od1, J1⟩ := Inv.inst I h1
        obtain ⟨mm, F⟩ := I.fr
        refine PySem.W.len_K F I.ok.mod.kin J1 hf1 hf2 (thn (run_fnA (us := [.ref a]) (Q := fun v H => ∃ n, v = .int n ∧ (0 ≤ n ∧ n < 2 ^ 63) ∧ Q (.int n) H) hf hr.in1 hb rfl I sa (.cons rx .nil) (.cons rfl .nil) (Post.bindI p fun r m2 v U st2 sa2 rv q2 => ?_)) fun v s1 h => ?_)
        · cases rv with
          | int n =>
            dsimp only at q2
            split at q2
            · rename_i hn; exact ⟨n, rfl, hn, Post.ok q2 (Stp.refl U) sa2 (.int n)⟩
            · exact (show False from q2).elim
          | _ => exact (show False from q2).elim
        · obtain ⟨y, H, I', r, n, rfl, hn, q⟩ := h
          obtain ⟨t, rfl⟩ := r
          exact ⟨hn, ⟨.int n, H, I'.tok _, ⟨_, rfl⟩, q⟩⟩
      · exact (show False from p).elim
    · exact (show False from p).elim
  | [], _, _, _, _ => exact p.elim
  | _ :: _ :: _, _, _, _, _ => exact p.elim
/-! ### tuple(xs) -/
def gTuple : DFn := fun ds m => match ds with
  | [d] => match seqL m d with
    | some es => .ok (.tup es) m
    | none => match d with
      | .tup es => .ok (.tup es) m
      | _ => .stuck
  | _ => .stuck
theorem oc_tuple : OC X (.type "tuple") gTuple := by
  intro pins s σ S m ds xs us Q sa r rv I p
  unfold gTuple at p
  split at p
  · rename_i d
    cases r with
    | cons r rr =>
      cases rr
      cases rv with
      | cons hu hr =>
        cases hr
        rename_i v u
        split at p
        · rename_i es e
          obtain ⟨a, ys, rfl, h1, h2⟩ := seqL_ok sa r e
          refine L2.rl_tuple pins s σ S.H _ u Q I hu (.inl ⟨a, ys, rfl, h1, fun l hl => ?_⟩)
          have st := Stp.new sa (o := .tup ys) hl
          exact p (.ref l) (S.new l (.tup ys)) st (sa.new hl) (.tup (.inl (.inl upd_same)) (h2.stp st))
        · split at p
          · rename_i es _
            obtain ⟨a, ys, rfl, h1, h2⟩ := seqT_ok sa r (ds := es) rfl
            exact L2.rl_tuple pins s σ S.H _ u Q I hu (.inr ⟨a, ys, rfl, h1, Post.ok p (Stp.refl S) sa r⟩)
          · exact p.elim
  · exact p.elim
end
/-- an item of an argument list; the star test is a row of its own -/
theorem pda_c {X : Cx} {a : Expr} {es : List Expr} {ta : DE} {t : DA} (ha : PDE X a ta) (hr : PDA X es t) (hs : isStar a = false := by rfl) : PDA X (a :: es) (dCons ta t) := pda_cons ha hr (se_cons _ _ _ hs)
end DL

namespace DL
open PySem PySem.Spec PyProof.Rows L2
variable [LamTab]
/-! ### comprehensions of two sources -/
theorem resB_assoc {α β γ : Type} (r : Res α) (f : α → Mu → Res β) (g : β → Mu → Res γ) : (r.bind f).bind g = r.bind fun a m => (f a m).bind g := by cases r <;> rfl
def dLc1 (n : Nat) (g : DG) (c : DT) (b : DE) (e : En) : List D → Mu → Res Unit
  | [], m => .ok () m
  | d :: ds, m => match g d e with
    | none => .stuck
    | some e1 => match c e1 m with
      | .ok true m1 => match b e1 m1 with
        | .ok x m2 => match m2[n]? with
          | some (.lst acc) => if acc.length < sizeLine then dLc1 n g c b e ds (m2.set n (.lst (acc ++ [x]))) else .stuck
          | _ => .stuck
        | _ => .stuck
      | .ok false m1 => dLc1 n g c b e ds m1
      | _ => .stuck
def dLc2 (n : Nat) (g : DG) (c : DT) (t1 : DA) (g1 : DG) (c1 : DT) (b : DE) (vs1 : List Nat) (e : En) : List D → Mu → Res Unit
  | [], m => .ok () m
  | d :: ds, m => match g d e with
    | none => .stuck
    | some e1 => match c e1 m with
      | .ok true m1 => match t1 e1 m1 with
        | .ok ds1 m2 => (dLc1 n g1 c1 b (wipeE e1 vs1) ds1 m2).bind fun _ m3 => dLc2 n g c t1 g1 c1 b vs1 e ds m3
        | _ => .stuck
      | .ok false m1 => dLc2 n g c t1 g1 c1 b vs1 e ds m1
      | _ => .stuck
/-- [elt for tg in iter if .. for tg1 in iter1 if ..]: the list stands in the store from the start -/
def dComp2 (t : DA) (g : DG) (c : DT) (t1 : DA) (g1 : DG) (c1 : DT) (b : DE) (own vs1 : List Nat) : DE := fun e m =>
  (t e m).bind fun ds m1 => (dLc2 m1.length g c t1 g1 c1 b vs1 (wipeE e own) ds (m1 ++ [.lst []])).bind fun _ m2 => .ok (.loc m1.length) m2
@[simp ↓] theorem dComp2_ap (t : DA) (g : DG) (c : DT) (t1 : DA) (g1 : DG) (c1 : DT) (b : DE) (own vs1 : List Nat) (e : En) (m : Mu) : dComp2 t g c t1 g1 c1 b own vs1 e m =
  (t e m).bind fun ds m1 => (dLc2 m1.length g c t1 g1 c1 b vs1 (wipeE e own) ds (m1 ++ [.lst []])).bind fun _ m2 => .ok (.loc m1.length) m2 := rfl
abbrev bI (X : Cx) (scope : Scope) (tg iter : Expr) : TI := fun σ H R => ∀ s0 H0 C cl fp, WI (Bk X scope s0 H0 C cl fp) tg iter σ H R
section
variable {X : Cx} {elt tg iter tg1 iter1 : Expr} {ifs ifs1 : List Expr} {scope : Scope} {own : List (Str × Nat)} {vs1 : List Nat} {pos spos : Pos} {t t1 : DA} {g g1 : DG} {c c1 : DT} {b : DE} {sl sl1 : List Nat}
theorem lc2_go {σ : L2.St} {S : Wd} {r : En} {m : Mu} {Q : VK} (hi : PDI X tg iter t)
    (hg : ∀ s H C cl fp, PDG (Bk X scope s H C cl fp) tg g sl) (ht : ∀ s H C cl fp, PDTs (Bk X scope s H C cl fp) ifs c)
    (hi1 : ∀ s H C cl fp, PDI (Bk X scope s H C cl fp) tg1 iter1 t1)
    (hg1 : ∀ s H C cl fp, PDG (Bk X scope s H C cl fp) tg1 g1 sl1) (ht1 : ∀ s H C cl fp, PDTs (Bk X scope s H C cl fp) ifs1 c1)
    (he : ∀ s H C cl fp, PDE (Bk X scope s H C cl fp) elt b)
    (hsl : ∀ i ∈ sl, i ∈ own.map (·.2)) (hsl1 : ∀ i ∈ sl1, i ∈ vs1)
    (sa : Sta X.K S m) (re : RelE X.K S r σ) (p : PostD X.K S (dComp2 t g c t1 g1 c1 b (own.map (·.2)) vs1 r m) Q (fun c d H => Fly X c d σ H)) :
    tLc2 (WI X tg iter) (bG X scope tg) (bT X scope ifs) (bI X scope tg1 iter1) (bG X scope tg1) (bT X scope ifs1) (bE X scope elt) (own.map (·.2)) vs1 σ S.H Q := by
  refine hi S r m σ _ sa re ?_
  unfold dComp2 at p
  cases q : t r m with
  | stuck => rw [q] at p; exact p
  | exc C fs m1 => rw [q] at p; exact p
  | ok ds m1 =>
    rw [q] at p
    intro J T st sa1 hJ Dd hD
    have pT : PostD X.K T ((dLc2 m1.length g c t1 g1 c1 b vs1 (wipeE r (own.map (·.2))) ds (m1 ++ [.lst []])).bind fun _ m2 => .ok (.loc m1.length) m2) Q (fun c d H => Fly X c d σ H) := Post.step st p
    have reW : RelE X.K T (wipeE r (own.map (·.2))) (wipe σ (own.map (·.2))) := (re.stp st).wipe _
    have stN : Stp T (T.tok Dd (.lst [])) := Stp.tok sa1 hD
    have saN : Sta X.K (T.tok Dd (.lst [])) (m1 ++ [.lst []]) := Sta.tok sa1 hD ⟨[], upd_same, .nil⟩
    have iN : (T.tok Dd (.lst [])).i[m1.length]? = some Dd := by
      show (T.i ++ [Dd])[m1.length]? = some Dd
      rw [← sa1.len, List.getElem?_append_right (Nat.le_refl _), Nat.sub_self]; rfl
    generalize m1.length = n0 at *
    refine ⟨fun i n H' => n = ds.length - i ∧ i ≤ ds.length ∧ ∃ (U : Wd) (m' : Mu), U.H = H' ∧ Stp (T.tok Dd (.lst [])) U ∧ Sta X.K U m' ∧
        PostD X.K T ((dLc2 n0 g c t1 g1 c1 b vs1 (wipeE r (own.map (·.2))) (ds.drop i) m').bind fun _ m2 => .ok (.loc n0) m2) Q (fun c d H => Fly X c d σ H),
      ⟨ds.length, by simp, Nat.zero_le _, T.tok Dd (.lst []), _, rfl, Stp.refl _, saN, pT⟩, ?_⟩
    rintro i n H' ⟨rfl, hi', U, m', rfl, stU, saU, pU⟩
    have stTU := stN.trans stU
    by_cases hlt : i < ds.length
    · refine .inr ⟨((hJ U m' i stTU saU).1 _ (List.getElem?_eq_getElem hlt)).1, fun H2 => i + 1 ≤ ds.length ∧ ∃ (U : Wd) (m' : Mu), U.H = H2 ∧ Stp (T.tok Dd (.lst [])) U ∧ Sta X.K U m' ∧
        PostD X.K T ((dLc2 n0 g c t1 g1 c1 b vs1 (wipeE r (own.map (·.2))) (ds.drop (i + 1)) m').bind fun _ m2 => .ok (.loc n0) m2) Q (fun c d H => Fly X c d σ H),
        fun H2 h2 => ⟨ds.length - (i + 1), by omega, rfl, h2.1, h2.2⟩, fun x H2 hy => ?_⟩
      obtain ⟨Y, rfl, stY, saY, rdY⟩ := ((hJ U m' i stTU saU).1 _ (List.getElem?_eq_getElem hlt)).2 x H2 hy
      rw [List.drop_eq_getElem_cons hlt] at pU
      unfold dLc2 at pU
      have stN2 := stU.trans stY
      have stT := stN.trans stN2
      cases qg : g ds[i] (wipeE r (own.map (·.2))) with
      | none => rw [qg] at pU; exact (show False from pU).elim
      | some e1 =>
        rw [qg] at pU
        dsimp only at pU
        intro s0 H0 C0 cl0 fp0
        refine hg s0 H0 C0 cl0 fp0 Y (wipeE r (own.map (·.2))) m' (wipe σ (own.map (·.2))) ds[i] x e1 _ saY (reW.stp stT) rdY qg ?_
        intro σ1 re1 bs
        refine ⟨?_, ?_⟩
        · rw [bs _ hsl]
          exact wipe_wipe _ _
        intro s0 H0 C0 cl0 fp0
        cases qc : c e1 m' with
        | stuck => rw [qc] at pU; exact (show False from pU).elim
        | exc C fs m2 => rw [qc] at pU; exact (show False from pU).elim
        | ok k m2 =>
          rw [qc] at pU
          refine ht s0 H0 C0 cl0 fp0 Y e1 m' σ1 _ saY re1 ?_
          rw [qc]
          intro k' Z stZ saZ hk
          cases (show k = k' from hk)
          have stNZ := stN2.trans stZ
          cases k with
          | false => exact iteF ⟨hlt, Z, m2, rfl, stNZ, saZ, pU⟩
          | true =>
            refine iteT ?_
            intro s0 H0 C0 cl0 fp0
            dsimp only at pU
            cases qt : t1 e1 m2 with
            | stuck => rw [qt] at pU; exact (show False from pU).elim
            | exc C fs m3 => rw [qt] at pU; exact (show False from pU).elim
            | ok ds1 m3 =>
              rw [qt] at pU
              dsimp only at pU
              refine hi1 s0 H0 C0 cl0 fp0 Z e1 m2 σ1 _ saZ (re1.stp stZ) ?_
              rw [qt]
              intro J1 T1 st1 sa2 hJ1
              have stN1 := stNZ.trans st1
              have reV : RelE X.K T1 (wipeE e1 vs1) (wipe σ1 vs1) := ((re1.stp stZ).stp st1).wipe _
              rw [resB_assoc] at pU
              refine ⟨fun j k H' => k = ds1.length - j ∧ j ≤ ds1.length ∧ ∃ (U : Wd) (m' : Mu), U.H = H' ∧ Stp T1 U ∧ Sta X.K U m' ∧
                  PostD X.K T ((dLc1 n0 g1 c1 b (wipeE e1 vs1) (ds1.drop j) m').bind fun _ m4 => (dLc2 n0 g c t1 g1 c1 b vs1 (wipeE r (own.map (·.2))) (ds.drop (i + 1)) m4).bind fun _ m2 => .ok (.loc n0) m2) Q (fun c d H => Fly X c d σ H),
                ⟨ds1.length, by simp, Nat.zero_le _, T1, m3, rfl, Stp.refl T1, sa2, pU⟩, ?_⟩
              rintro j k H'' ⟨rfl, hj', V0, n', rfl, stV0, saV0, pV⟩
              by_cases hlt1 : j < ds1.length
              · refine .inr ⟨((hJ1 V0 n' j stV0 saV0).1 _ (List.getElem?_eq_getElem hlt1)).1, fun H2 => j + 1 ≤ ds1.length ∧ ∃ (U : Wd) (m' : Mu), U.H = H2 ∧ Stp T1 U ∧ Sta X.K U m' ∧
                  PostD X.K T ((dLc1 n0 g1 c1 b (wipeE e1 vs1) (ds1.drop (j + 1)) m').bind fun _ m4 => (dLc2 n0 g c t1 g1 c1 b vs1 (wipeE r (own.map (·.2))) (ds.drop (i + 1)) m4).bind fun _ m2 => .ok (.loc n0) m2) Q (fun c d H => Fly X c d σ H),
                  fun H2 h2 => ⟨ds1.length - (j + 1), by omega, rfl, h2.1, h2.2⟩, fun x1 H3 hy1 => ?_⟩
                obtain ⟨Y1, rfl, stY1, saY1, rdY1⟩ := ((hJ1 V0 n' j stV0 saV0).1 _ (List.getElem?_eq_getElem hlt1)).2 x1 H3 hy1
                rw [List.drop_eq_getElem_cons hlt1] at pV
                unfold dLc1 at pV
                have stTY := stV0.trans stY1
                cases qg1 : g1 ds1[j] (wipeE e1 vs1) with
                | none => rw [qg1] at pV; exact (show False from pV).elim
                | some e2 =>
                  rw [qg1] at pV
                  dsimp only at pV
                  intro s0 H0 C0 cl0 fp0
                  refine hg1 s0 H0 C0 cl0 fp0 Y1 (wipeE e1 vs1) n' (wipe σ1 vs1) ds1[j] x1 e2 _ saY1 (reV.stp stTY) rdY1 qg1 ?_
                  intro σ2 re2 bs2
                  refine ⟨?_, ?_⟩
                  · rw [bs2 _ hsl1]
                    exact wipe_wipe _ _
                  intro s0 H0 C0 cl0 fp0
                  cases qc1 : c1 e2 n' with
                  | stuck => rw [qc1] at pV; exact (show False from pV).elim
                  | exc C fs m2 => rw [qc1] at pV; exact (show False from pV).elim
                  | ok k1 n2 =>
                    rw [qc1] at pV
                    refine ht1 s0 H0 C0 cl0 fp0 Y1 e2 n' σ2 _ saY1 re2 ?_
                    rw [qc1]
                    intro k2 Z1 stZ1 saZ1 hk1
                    cases (show k1 = k2 from hk1)
                    cases k1 with
                    | false => exact iteF ⟨hlt1, Z1, n2, rfl, stTY.trans stZ1, saZ1, pV⟩
                    | true =>
                      refine iteT ?_
                      intro s0 H0 C0 cl0 fp0
                      dsimp only at pV
                      cases qb : b e2 n2 with
                      | stuck => rw [qb] at pV; exact (show False from pV).elim
                      | exc C fs m3 => rw [qb] at pV; exact (show False from pV).elim
                      | ok dx n3 =>
                        rw [qb] at pV
                        refine he s0 H0 C0 cl0 fp0 Z1 e2 n2 σ2 _ saZ1 (re2.stp stZ1) ?_
                        rw [qb]
                        intro vx V1 stV saV rx
                        dsimp only at pV
                        have stW := ((stTY.trans stZ1).trans stV)
                        have iV : V1.i[n0]? = some Dd := pre_get (stN1.trans stW).pre iN
                        split at pV
                        · rename_i acc hacc
                          obtain ⟨av, w1, w2⟩ := saV.ok n0 Dd _ iV hacc
                          split at pV
                          · rename_i hlen
                            obtain ⟨sp, ss⟩ := saV.put (o := .lst (av ++ [vx])) iV (q := .lst (acc ++ [dx])) ⟨av ++ [vx], upd_same, w2.append (.cons rx .nil)⟩
                            exact ⟨av, w1, by rw [← w2.len]; exact hlen, hlt1, V1.put Dd (.lst (av ++ [vx])), _, rfl, stW.trans sp, ss, pV⟩
                          · exact (show False from pV).elim
                        · exact (show False from pV).elim
              · have ej : j = ds1.length := by omega
                subst ej
                rw [List.drop_length] at pV
                exact .inl ⟨(hJ1 V0 n' _ stV0 saV0).2 (Nat.le_refl _), hlt, V0, n', rfl, stN1.trans stV0, saV0, pV⟩
    · have e : i = ds.length := by omega
      subst e
      rw [List.drop_length] at pU
      refine .inl ⟨(hJ U m' _ stTU saU).2 (Nat.le_refl _), ?_⟩
      have pU : PostD X.K T (Res.ok (D.loc n0) m') Q (fun c d H => Fly X c d σ H) := pU
      exact pU (.ref Dd) U stTU saU (.loc (pre_get stU.pre iN))
abbrev mxBI (X : Cx) (scope : Scope) (tg iter : Expr) : ∀ s H C cl fp, PI (Bk X scope s H C cl fp) tg iter (bI X scope tg iter) := fun s H C cl fp => ⟨fun pins s1 σ H1 R I h => h s H C cl fp pins s1 I⟩
theorem pd_lc2 (hi : PDI X tg iter t) (hN : X.N.Nodup) (ok : BlkOk X.N X.env.scope scope own)
    (hg : ∀ s H C cl fp, PDG (Bk X scope s H C cl fp) tg g sl) (ht : ∀ s H C cl fp, PDTs (Bk X scope s H C cl fp) ifs c)
    (hi1 : ∀ s H C cl fp, PDI (Bk X scope s H C cl fp) tg1 iter1 t1)
    (hg1 : ∀ s H C cl fp, PDG (Bk X scope s H C cl fp) tg1 g1 sl1) (ht1 : ∀ s H C cl fp, PDTs (Bk X scope s H C cl fp) ifs1 c1)
    (he : ∀ s H C cl fp, PDE (Bk X scope s H C cl fp) elt b)
    (hc : X.calm = true) (hv : ∀ i ∈ vs1, i ∈ own.map (·.2) := by decide) (hsl : ∀ i ∈ sl, i ∈ own.map (·.2) := by decide) (hsl1 : ∀ i ∈ sl1, i ∈ vs1 := by decide)
    (hs : ∀ x, foldedSetIterable iter X.env x = pure x := by intro _; rfl) (hs1 : ∀ env x, foldedSetIterable iter1 env x = pure x := by intro _ _; rfl) :
    PDE X (.ListComp elt [⟨tg, iter, ifs, 0⟩, ⟨tg1, iter1, ifs1, 0⟩] scope pos) (dComp2 t g c t1 g1 c1 b (own.map (·.2)) vs1) :=
  pd_of (pe_lc2 hc hN (mxI X tg iter) ok hv (mxBG X scope tg) (mxBT X scope ifs) (mxBI X scope tg1 iter1) (mxBG X scope tg1) (mxBT X scope ifs1) (mxBE X scope elt) hs hs1)
    fun S r m σ Q sa re p => lc2_go hi hg ht hi1 hg1 ht1 he hsl hsl1 sa re p
theorem pds_setLc2 {i : Nat} {y : Str} {py : Pos} (hi : PDI X tg iter t) (hN : X.N.Nodup) (ok : BlkOk X.N X.env.scope scope own)
    (hg : ∀ s H C cl fp, PDG (Bk X scope s H C cl fp) tg g sl) (ht : ∀ s H C cl fp, PDTs (Bk X scope s H C cl fp) ifs c)
    (hi1 : ∀ s H C cl fp, PDI (Bk X scope s H C cl fp) tg1 iter1 t1)
    (hg1 : ∀ s H C cl fp, PDG (Bk X scope s H C cl fp) tg1 g1 sl1) (ht1 : ∀ s H C cl fp, PDTs (Bk X scope s H C cl fp) ifs1 c1)
    (he : ∀ s H C cl fp, PDE (Bk X scope s H C cl fp) elt b)
    (hc : X.calm = true) (hsw : swapsWith (.ListComp elt [⟨tg, iter, ifs, 0⟩, ⟨tg1, iter1, ifs1, 0⟩] scope pos) (some (.Name y py)) spos.line X.env = pure true) (hv : ∀ i ∈ vs1, i ∈ own.map (·.2) := by decide) (hsl : ∀ i ∈ sl, i ∈ own.map (·.2) := by decide) (hsl1 : ∀ i ∈ sl1, i ∈ vs1 := by decide)
    (hy : X.N[i]? = some y := by rfl) (hyl : X.env.scope.names.lookup y = some .local := by rfl) (hs : ∀ x, foldedSetIterable iter X.env x = pure x := by intro _; rfl) (hs1 : ∀ env x, foldedSetIterable iter1 env x = pure x := by intro _ _; rfl) :
    PDS X (.Assign [.Name y py] (.ListComp elt [⟨tg, iter, ifs, 0⟩, ⟨tg1, iter1, ifs1, 0⟩] scope pos) spos) (dSet i (dComp2 t g c t1 g1 c1 b (own.map (·.2)) vs1)) := by
  refine ps_of (ps_setLc2 hc hN hy hyl hsw (mxI X tg iter) ok hv (mxBG X scope tg) (mxBT X scope ifs) (mxBI X scope tg1 iter1) (mxBG X scope tg1) (mxBT X scope ifs1) (mxBE X scope elt) hs hs1) fun S r m σ N sa re p => ?_
  exact lc2_go hi hg ht hi1 hg1 ht1 he hsl hsl1 sa re (PDE.stm re p fun d m1 v T st sa1 rd q => q _ T (Stp.refl T) sa1 ((re.stp st).set i rd))
end
end DL

namespace DL
open PySem PySem.Spec PyProof.Rows L2
variable [LamTab]
section
variable {X : Cx} {a b c e o tg : Expr} {es : List Expr} {ta tb tc to te u : DE} {t : DA} {pos p apos : Pos} {k : Nat}
/-! ### what is never reached; one reading or another -/
theorem pd_stuckE : PDE X a (fun _ _ => .stuck) := fun S r m σ Q sa re p => p.elim
theorem pdt_stuckE : PDT X a (fun _ _ => .stuck) := fun S r m σ Q sa re p => p.elim
theorem pdi_stuckI : PDI X tg a (fun _ _ => .stuck) := fun S r m σ Q sa re p => p.elim
def orE (t u : DE) : DE := fun e m => match t e m with
  | .stuck => u e m
  | r => r
theorem pd_orE (h : PDE X a ta) (h2 : PDE X a u) : PDE X a (orE ta u) := by
  intro S r m σ Q sa re p
  unfold orE at p
  split at p
  · exact h2 S r m σ Q sa re p
  · exact h S r m σ Q sa re p
def orA (t u : DA) : DA := fun e m => match t e m with
  | .stuck => u e m
  | r => r
theorem pdi_orA {t u : DA} (h : PDI X tg a t) (h2 : PDI X tg a u) : PDI X tg a (orA t u) := by
  intro S r m σ Q sa re p
  unfold orA at p
  split at p
  · exact h2 S r m σ Q sa re p
  · exact h S r m σ Q sa re p
def orS (t u : DS) : DS := fun e m => match t e m with
  | .stuck => u e m
  | r => r
theorem pds_orS {st : Stmt} {t u : DS} (h : PDS X st t) (h2 : PDS X st u) : PDS X st (orS t u) := by
  intro S r m σ N sa re p
  unfold orS at p
  split at p
  · exact h2 S r m σ N sa re p
  · exact h S r m σ N sa re p
@[simp ↓] theorem orE_ap (t u : DE) (e : En) (m : Mu) : orE t u e m = match t e m with
  | .stuck => u e m
  | r => r := rfl
@[simp ↓] theorem orA_ap (t u : DA) (e : En) (m : Mu) : orA t u e m = match t e m with
  | .stuck => u e m
  | r => r := rfl
@[simp ↓] theorem orS_ap (t u : DS) (e : En) (m : Mu) : orS t u e m = match t e m with
  | .stuck => u e m
  | r => r := rfl
end
end DL

namespace DL
open PySem PySem.Spec PyProof.Rows L2
variable [LamTab]
section
variable {X : Cx} {a b c e o tg : Expr} {es : List Expr} {ta tb tc to te u : DE} {t : DA} {pos p apos cpos : Pos} {k : Nat}
theorem Reps.reverse {K : PySem.W.Frag} {ι : List Addr} {F : Hp} {ds : List D} {vs : List V} (r : Reps K ι F ds vs) : Reps K ι F ds.reverse vs.reverse := by
  match r with
  | .nil => exact .nil
  | .cons h r' => rw [List.reverse_cons, List.reverse_cons]; exact (Reps.reverse r').append (.cons h .nil)
/-! ### xs[::-1] -/
def dRev (t : DE) : DE := fun e m => (t e m).bind fun d m1 => match seqL m1 d with
  | some ds => .ok (.lst ds.reverse) m1
  | none => .stuck
@[simp ↓] theorem dRev_ap (t : DE) (e : En) (m : Mu) : dRev t e m = (t e m).bind fun d m1 => match seqL m1 d with
  | some ds => .ok (.lst ds.reverse) m1
  | none => .stuck := rfl
theorem pd_rev {k : Nat} {p1 p2 p3 : Pos} (ha : PDE X a ta) : PDE X (.Subscript a (.Slice none none (some (.UnaryOp .USub (.Constant (.int 1) k p1) p2)) p3) pos) (dRev ta) := by
  refine pd_of (pe_revL (mxE X a)) fun S r m σ Q sa re p => ?_
  refine ha S r m σ _ sa re (Post.bindI p fun d m1 v T st sa1 rd q => ?_)
  split at q
  · rename_i ds e1
    obtain ⟨ad, xs, rfl, h1, r1⟩ := seqL_ok sa1 rd e1
    refine ⟨ad, xs, rfl, h1, fun p' hp => ?_⟩
    have st1 := Stp.new sa1 (o := .lst xs.reverse) hp
    exact q (.ref p') (T.new p' (.lst xs.reverse)) st1 (sa1.new hp) (.lst (.inl (.inl upd_same)) ((r1.reverse).stp st1))
  · exact q.elim
/-! ### methods of lists and texts that change nothing -/
/-- what a method's answer must bear -/
def BmOk (K : PySem.W.Frag) (f : D → List D → Mu → Res D) (rr : V → List V → Hp → VK → Prop) : Prop :=
  ∀ (S : Wd) (m : Mu) (d : D) (ds : List D) (v : V) (vs : List V) (Q : VK) (W : XK), Sta K S m → Rep K S.i S.F d v → Reps K S.i S.F ds vs → PostD K S (f d ds m) Q W → rr v vs S.H Q
/-- o.name(..), o a list -/
def dBmL (f : D → List D → Mu → Res D) (to : DE) (t : DA) : DE := fun e m => (to e m).bind fun o m1 => match seqL m1 o with
  | some _ => (t e m1).bind fun ds m2 => f o ds m2
  | none => .stuck
@[simp ↓] theorem dBmL_ap (f : D → List D → Mu → Res D) (to : DE) (t : DA) (e : En) (m : Mu) : dBmL f to t e m = (to e m).bind fun o m1 => match seqL m1 o with
  | some _ => (t e m1).bind fun ds m2 => f o ds m2
  | none => .stuck := rfl
theorem pd_bmL {f : D → List D → Mu → Res D} {rr : V → List V → Hp → VK → Prop} {name : Str} {id : String} (slot : Slot "list" name id) (hty : typeOf (.builtin id) = pure (.type "method_descriptor")) (hr : MtR X id rr) (hm : BmOk X.K f rr) (ho : PDE X o to) (ha : PDA X (e :: es) t)
    (hbase : attributeBase o name X.env (eval o X.env) = eval o X.env := by rfl)
    (hfew : ((backTo cpos (starEach (e :: es) X.env)).all (fun x => !x.1) && (backToKw cpos (keywordEach [] X.env)).all (fun x => x.1.isSome)
      && decide ((e :: es).length + ([] : List Keyword).length + (if ([] : List Keyword).isEmpty then 0 else 1) < 30)) = true := by rfl)
    (hline : (apos.endLine == cpos.line) = true := by rfl) (hs : starEach (e :: es) X.env = (false, eval e X.env) :: starEach es X.env := by exact se_cons _ _ _ rfl) (hplain : (backTo cpos (starEach es X.env)).any (·.1) = false := by rfl) :
    PDE X (.Call (.Attribute o name apos) (e :: es) [] cpos) (dBmL f to t) := by
  refine pd_of (pe_bm PySem.F.plainAttrs_list slot hty hr (mxE X o) (mxA X _) hbase hfew hline hs hplain) fun S r m σ Q sa re p => ?_
  refine ho S r m σ _ sa re (Post.bindI p fun od m1 v T st sa1 rd q => ?_)
  split at q
  · rename_i ds e1
    obtain ⟨ad, xs, rfl, h1, r1⟩ := seqL_ok sa1 rd e1
    refine ⟨.inl ⟨rfl, xs, h1⟩, ?_⟩
    refine ha T r m1 σ _ sa1 (re.stp st) (Post.bindI q fun ds m2 us U st2 sa2 rds q2 => ?_)
    exact hm U m2 od ds (.ref ad) us Q _ sa2 (rd.stp st2) rds q2
  · exact q.elim
def findV (y : V) : List V → Option Nat
  | [] => none
  | x :: xs => if eqV x y then some 0 else (findV y xs).map (· + 1)
theorem findV_ok {y : V} : ∀ {xs : List V} {j : Nat}, findV y xs = some j → (∃ z, xs[j]? = some z ∧ eqV z y = true) ∧ ∀ (i : Nat) (z : V), i < j → xs[i]? = some z → eqV z y = false
  | [], _, h => by cases h
  | x :: xs, j, h => by
    unfold findV at h
    split at h
    · rename_i hx
      cases h
      exact ⟨⟨x, rfl, hx⟩, fun i z hi => by omega⟩
    · rename_i hx
      cases q : findV y xs with
      | none => rw [q] at h; cases h
      | some k =>
        rw [q] at h
        cases h
        obtain ⟨h1, h2⟩ := findV_ok q
        refine ⟨h1, fun i z hi hz => ?_⟩
        cases i with
        | zero => simp at hz; subst hz; simpa using hx
        | succ i => exact h2 i z (Nat.lt_of_succ_lt_succ hi) (by simpa using hz)
/-- xs.index(y), plain values -/
def fIndex : D → List D → Mu → Res D := fun d ds m => match ds with
  | [y] => match toV y, (seqL m d).bind toVs with
    | some v, some vs => match findV v vs with
      | some j => .ok (.int j) m
      | none => .stuck
    | _, _ => .stuck
  | _ => .stuck
theorem toVs_flat {ds : List D} {vs : List V} {K : PySem.W.Frag} {i : List Addr} {F : Hp} {xs : List V} (r : Reps K i F ds xs) (h : toVs ds = some vs) : xs = vs ∧ vs.all flatV = true := toVs_ok r h
theorem ok_index {K : PySem.W.Frag} : BmOk K fIndex (rIndex K) := by
  intro S m d ds v vs Q W sa rd rds p
  unfold fIndex at p
  split at p
  · rename_i y
    obtain ⟨vy, rfl, ry⟩ := reps1 rds
    split at p
    · rename_i v1 vs1 e1 e2
      cases q : seqL m d with
      | none => rw [q] at e2; cases e2
      | some es =>
        rw [q] at e2
        obtain ⟨ad, xs, rfl, h1, r1⟩ := seqL_ok sa rd q
        obtain ⟨rfl, fl⟩ := toVs_ok r1 (show toVs es = some vs1 from e2)
        obtain ⟨rfl, fy⟩ := toV_ok ry e1
        split at p
        · rename_i j hj
          obtain ⟨⟨z, z1, z2⟩, z3⟩ := findV_ok hj
          exact ⟨ad, _, _, j, z, rfl, rfl, h1, fy, fl, z1, z2, z3, Post.ok p (Stp.refl S) sa (.int _)⟩
        · exact p.elim
    · exact p.elim
  · exact p.elim
theorem pd_index (ho : PDE X o to) (ha : PDA X [e] t) (hbase : attributeBase o "index" X.env (eval o X.env) = eval o X.env := by rfl)
    (hfew : ((backTo cpos (starEach [e] X.env)).all (fun x => !x.1) && (backToKw cpos (keywordEach [] X.env)).all (fun x => x.1.isSome)
      && decide ([e].length + ([] : List Keyword).length + (if ([] : List Keyword).isEmpty then 0 else 1) < 30)) = true := by rfl)
    (hline : (apos.endLine == cpos.line) = true := by rfl) (hs : starEach [e] X.env = (false, eval e X.env) :: starEach [] X.env := by rfl) (hplain : (backTo cpos (starEach [] X.env)).any (·.1) = false := by rfl) :
    PDE X (.Call (.Attribute o "index" apos) [e] [] cpos) (dBmL fIndex to t) := pd_bmL PySem.F.slot_list_index PySem.F.type_list_index mt_index ok_index ho ha hbase hfew hline hs hplain
/-! ### [..] * int -/
def dLstRep (t : DA) (tb : DE) : DE := fun e m => (dLst t e m).bind fun x m1 => (tb e m1).bind fun d m2 => match x, d with
  | .lst ds, .int k => if 0 ≤ k ∧ k < 2 ^ 62 ∧ ds.length * k.toNat ≤ sizeLine then .ok (.lst (List.replicate k.toNat ds).flatten) m2 else .stuck
  | _, _ => .stuck
@[simp ↓] theorem dLstRep_ap (t : DA) (tb : DE) (e : En) (m : Mu) : dLstRep t tb e m = (dLst t e m).bind fun x m1 => (tb e m1).bind fun d m2 => match x, d with
  | .lst ds, .int k => if 0 ≤ k ∧ k < 2 ^ 62 ∧ ds.length * k.toNat ≤ sizeLine then .ok (.lst (List.replicate k.toNat ds).flatten) m2 else .stuck
  | _, _ => .stuck := rfl
theorem Reps.rep {K : PySem.W.Frag} {ι : List Addr} {F : Hp} {ds : List D} {vs : List V} (r : Reps K ι F ds vs) : ∀ n : Nat, Reps K ι F (List.replicate n ds).flatten (List.replicate n vs).flatten
  | 0 => .nil
  | n + 1 => by rw [List.replicate_succ, List.replicate_succ, List.flatten_cons, List.flatten_cons]; exact r.append (Reps.rep r n)
theorem pd_lstRep {lpos : Pos} (ha : PDA X es t) (hb : PDE X b tb) : PDE X (.BinOp (.List es lpos) .Mult b pos) (dLstRep t tb) := by
  refine pd_of (pe_op op_rep (pe_lst (mxA X es)) (mxE X b)) fun S r m σ Q sa re p => ?_
  unfold dLstRep dLst at p
  rw [resB_assoc] at p
  refine ha S r m σ _ sa re (Post.bindI p fun ds m1 xs T st sa1 rd q => ?_)
  split at q
  · rename_i hl
    refine ⟨by rw [← rd.len]; exact hl, fun p' hp => ?_⟩
    have st1 := Stp.new sa1 (o := .lst xs) hp
    refine hb (T.new p' (.lst xs)) r m1 σ _ (sa1.new hp) ((re.stp st).stp st1) (Post.bindI (Post.step st1 q) fun d m2 v U st2 sa2 rv q2 => ?_)
    cases rv with
    | int k =>
      dsimp only at q2
      split at q2
      · rename_i hk
        have h1 : U.H p' = some (.lst xs) := sa2.sub _ _ (st2.ext _ _ (upd_same))
        refine ⟨p', k, xs, rfl, rfl, h1, by omega, by omega, by rw [← rd.len]; exact hk.2.2, fun p2 hp2 => ?_⟩
        have st3 := Stp.new sa2 (o := .lst (List.replicate k.toNat xs).flatten) hp2
        exact q2 (.ref p2) (U.new p2 _) st3 (sa2.new hp2) (.lst (.inl (.inl upd_same)) ((((rd.stp st1).stp st2).rep _).stp st3))
      · exact q2.elim
    | _ => exact (show False from q2).elim
  · exact q.elim
end
end DL

namespace DL
open PySem PySem.Spec PySem.Calls PyProof.Rows L2
variable [LamTab]
/-! ### bool(x) of own classes -/
section
variable {prog : Program} {w : World} {A : Around} {E : Value → Shared → Prop} {s : Shared} {x : Addr}
theorem bool_call {Q : Value → Shared → Prop} (h : wpAny (model prog w) A.in1.in1 (truthy (.ref x)) (fun b s1 => Q (.bool b) s1) E s) : wpAny (model prog w) A (call (.type "bool") [.ref x]) Q E s := by
  refine callType_codes (T := "bool") (Bi := Builtin.«object.__init__») (Q₁ := fun r s₁ => ∃ b, r = .bool b ∧ Q r s₁) PySem.F.called_bool (PySem.F.typeCall_bool_1 _) PySem.F.entry_object_init ?_ ?_
  · refine codeAny_of_tree ?_
    show wpAny _ A.in1.in1 (do checkBuiltinCall "bool.__new__" ⟨[.type "bool", .ref x], []⟩; again (.builtin "bool.__new__" ⟨[.type "bool", .ref x], []⟩)) _ _ s
    refine wpAny_bind (wpAny_of_eq (PySem.F.newCall_bool_1 _) (wpAny_pure ⟨plainId_quiet (by decide +kernel) _, codeAny_builtin PySem.F.entry_bool_new ?_⟩))
    rw [Around.under_plainId (by decide +kernel) _]
    unfold Builtin.«bool.__new__»
    refine wpAny_bind (wpAny_pure ?_)
    refine wpAny_bind (wpAny_of_eq PySem.F.conv_sub_bool ?_)
    show wpAny _ _ (do match ← someArgs "bool" 0 1 { pos := [Value.ref x] } with
      | x :: tail => do
        let b ← truthy x
        ret (Value.bool b)
      | [] => ret (Value.bool false)) _ _ _
    refine wpAny_bind (wpAny_pure ?_)
    refine wpAny_bind (wpAny_mono h (fun b s1 hb => wpAny_pure ⟨b, rfl, hb⟩) fun _ _ y => y)
  · rintro obj s₁ ⟨b, rfl, hq⟩
    exact ⟨rfl, PySem.F.args_object_init_2 _ _, object_init_meets PySem.F.called_bool.init.lookup PySem.F.called_bool.made (by decide) prog w A.in1 _ s₁ ⟨rfl, rfl, hq⟩⟩
end
section
variable {X : Cx} {a b c e o tg : Expr} {es : List Expr} {ta tb tc te to u : DE} {t : DA} {pos p apos cpos : Pos} {k : Nat} {x mn : Str} {G : DFn}
def dBoolO (rows : List (Kl × DFn)) : DFn := fun ds m => match ds with
  | [x] => match insOf m x with
    | some (C, ns, _) => match methAt rows C ns with
      | some G => (G [x] m).bind fun r m1 => match r with
        | .bl n => .ok (.bl n) m1
        | _ => .stuck
      | none => .stuck
    | none => .stuck
  | _ => .stuck
theorem oc_boolO {rows : List (Kl × DFn)} (hrows : ∀ r ∈ rows, MRow X.prog X.w X.K X.mg X.base k "__bool__" r.1 r.2) (hr : Room (k + 2) X.A) : OC X (.type "bool") (dBoolO rows) := by
  intro pins s σ S m ds xs us Q sa r rv I p
  match ds, xs, us, r, rv with
  | [x], [vx], [u], .cons rx .nil, .cons hu .nil =>
    unfold dBoolO at p
    dsimp only at p
    split at p
    · rename_i C ns ds ei
      split at p
      · rename_i G eG
        obtain ⟨c, ok, rfl, rfl⟩ := methAt_ok (P := MRow X.prog X.w X.K X.mg X.base k "__bool__") hrows eG
        obtain ⟨a, dx, vs, rfl, h1, h2, h3⟩ := insOf_ok sa rx ei
        obtain ⟨f, fd, ps, dds, G0, hf1, hf2, hk, hf, hb, rfl⟩ := ok.ex
        obtain rfl : u = Value.ref a := hu
        obtain ⟨od1, J1⟩ := Inv.inst I h1
        obtain ⟨mm, F⟩ := I.fr
        refine bool_call (PySem.W.truthy_K F I.ok.mod.kin J1 hf1 hf2 (thn (run_fnA (us := [.ref a]) (Q := fun v H => ∃ b, v = .bl b ∧ Q (.bl b) H) hf hr.in1.in1 hb rfl I sa (.cons rx .nil) (.cons rfl .nil) (Post.bindI p fun r m2 v U st2 sa2 rv q2 => ?_)) fun v s1 h => ?_))
        · cases rv with
          | bl b => exact ⟨b, rfl, Post.ok q2 (Stp.refl U) sa2 (.bl b)⟩
          | _ => exact (show False from q2).elim
        · obtain ⟨y, H, I', r, b, rfl, q⟩ := h
          cases r
          exact ⟨.bl b, H, I', rfl, q⟩
      · exact (show False from p).elim
    · exact (show False from p).elim
  | [], _, _, _, _ => exact p.elim
  | _ :: _ :: _, _, _, _, _ => exact p.elim
/-! ### `is` of two truth values -/
def gIsB : D2 := fun x y m => match x, y with
  | .bl a, .bl b => .ok (.bl (decide (a = b))) m
  | _, _ => .stuck
def gNotB : D2 := fun x y m => match x, y with
  | .bl a, .bl b => .ok (.bl (!decide (a = b))) m
  | _, _ => .stuck
theorem od_isB : OD X (compareOp .Is) gIsB := by
  refine od_of op_isBl fun S m x y vx vy Q W sa rx ry p => ?_
  cases rx with
  | bl a =>
    cases ry with
    | bl b => exact ⟨a, b, rfl, rfl, Post.ok p (Stp.refl S) sa (.bl _)⟩
    | _ => exact (show False from p).elim
  | _ => exact (show False from p).elim
theorem od_notB : OD X (compareOp .IsNot) gNotB := by
  refine od_of op_notBl fun S m x y vx vy Q W sa rx ry p => ?_
  cases rx with
  | bl a =>
    cases ry with
    | bl b => exact ⟨a, b, rfl, rfl, Post.ok p (Stp.refl S) sa (.bl _)⟩
    | _ => exact (show False from p).elim
  | _ => exact (show False from p).elim
/-! ### *xs in a display or an argument list -/
def dStar (te : DE) (t : DA) : DA := fun e m => (te e m).bind fun d m1 => match seqA m1 d with
  | some ds => (t e m1).bind fun es m2 => .ok (ds ++ es) m2
  | none => .stuck
@[simp ↓] theorem dStar_ap (te : DE) (t : DA) (e : En) (m : Mu) : dStar te t e m = (te e m).bind fun d m1 => match seqA m1 d with
  | some ds => (t e m1).bind fun es m2 => .ok (ds ++ es) m2
  | none => .stuck := rfl
theorem pda_star (he : PDE X e te) (hr : PDA X es t) : PDA X (.Starred e p :: es) (dStar te t) := by
  refine pa_of (StX.pa_star (mxE X e) (mxA X es)) fun S r m σ Q sa re q => ?_
  refine he S r m σ _ sa re (Post.bindI q fun d m1 v T st sa1 rd q1 => ?_)
  split at q1
  · rename_i ds e1
    obtain ⟨a, xs, rfl, h1, h2⟩ := seqA_ok sa1 rd e1
    refine ⟨a, xs, rfl, h1.symm, ?_⟩
    refine hr T r m1 σ _ sa1 (re.stp st) (Post.bindI q1 fun ds2 m2 vs U st2 sa2 rds q2 => ?_)
    exact Post.ok q2 (Stp.refl U) sa2 ((h2.stp st2).append rds)
  · exact q1.elim
end
/-! ### defs with a star parameter -/
def spS (K : PySem.W.Frag) (F : DFn) : Sp := fun vs H Q E => ∃ (S : Wd) (m : Mu) (ds : List D), S.H = H ∧ Sta K S m ∧ Reps K S.i S.F ds vs ∧ PostD K S (F ds m) Q E
/-- the items beyond the first n are a tuple -/
def dRest (n : Nat) (F : DFn) : DFn := fun ds m => if n ≤ ds.length ∧ (ds.drop n).length ≤ sizeLine then F (ds.take n ++ [.tup (ds.drop n)]) m else .stuck
section
variable (P : Program) (w : World) (K : PySem.W.Frag) (mg : Str → Option Value) (base : Heap)
abbrev FnS (k : Nat) (f : Addr) (G : DFn) : Prop := FnR P w K mg base (L2.CX P w) k f (spS K G)
/-- a def with a star parameter by its global name -/
structure FSt (k : Nat) (x : Str) (G : DFn) : Prop where
  ex : ∃ (f : Addr), mg x = some (.ref f) ∧ PySem.W.keepIn K (.ref f) = true ∧ FnS P w K mg base k f G
end
section
variable {P : Program} {w : World} {K : PySem.W.Frag} {mg : Str → Option Value} {base : Heap}
theorem fnSt_of {x qual pv : Str} {params : Arguments} {body : List Stmt} {scope : Scope} {kws : List (Str × V)} {f : Addr} {fd : FuncData} {N ps : List Str} {k : Nat} {t : DS} (F : FunD K x qual params body scope [] kws f fd) (S : FnScope N (ps ++ [pv]) scope)
    (hb : ∀ (kV doc pm : Value) (an : Option Addr) (cdv ct : Value) (us rest : List Value), us.length = ps.length → bindArgs (PySem.W.fnOf x qual params body scope .none kV doc pm an cdv ct) ⟨us ++ rest, []⟩ = (newTuple rest >>= fun t => pure (ps.zip us ++ [(pv, t)])))
    (h : ∀ (cdv : Value) (A : Around) (outer : List Env) (s : Shared) (H : Hp) (E : XK), Room k (A.deeper (envOfC qual scope s.heap.objs.size f cdv)) → PDSs (cxOf (L2.CX P w) P w K mg base N qual scope f cdv A outer s H E) body t) :
    FnS P w K mg base (k + 1) f (dRest ps.length (dFn N.length t)) := by
  obtain ⟨oc, od, dV, kV, doc, pm, an, cdv, ct, osl, rfl, lk, hcd, hD, hK⟩ := F.ex
  obtain rfl := dfl_nil hD
  have z := StX.fn_star (P := P) (w := w) (mg := mg) (base := base) (CX := L2.CX P w) (k := k) (sp := spD K (ps.length + 1) (dFn N.length t)) lk hcd S StX.cxUp (hb kV doc pm an cdv ct) (fun A outer s H vs Q E hr hsp => ⟨_, mxSs _ body, by
    obtain ⟨_, T, m, ds, rfl, sa, rd, p⟩ := hsp
    refine h cdv A outer s T.H E hr T (env0 N.length ds) m (L2.start N vs) _ sa (relE_start rd) ?_
    have tk : Takes (cxOf (L2.CX P w) P w K mg base N qual scope f cdv A outer s T.H E) (fun cls d _ H => E cls d H) := takes_of rfl rfl rfl rfl
    unfold dFn at p
    cases q : t (env0 N.length ds) m with
    | stuck => rw [q] at p; exact p.elim
    | nx e m1 => rw [q] at p; exact fun σ U st sa1 re => p .non U st sa1 .non
    | rt d m1 => rw [q] at p; exact fun v U st sa1 r1 => p v U st sa1 r1
    | bk e m1 => rw [q] at p; exact p.elim
    | ct e m1 => rw [q] at p; exact p.elim
    | exc C fs e m1 => rw [q] at p; exact fun dd vs σ U st hn sa1 re h1 h2 => Fly.of tk (p dd vs U st hn sa1 h1 h2)⟩)
  intro A outer s H us vs Q E hr e0 r hsp
  refine z A outer s H us vs Q E hr e0 r ?_
  obtain ⟨T, m, ds, rfl, sa, rd, p⟩ := hsp
  unfold dRest at p
  split at p
  · rename_i hl
    have hl2 := rd.len
    refine ⟨vs.take ps.length, vs.drop ps.length, (List.take_append_drop _ _).symm, by rw [List.length_take]; omega, by rw [List.length_drop, ← hl2, ← List.length_drop]; exact hl.2, fun q hq => ?_⟩
    have st := Stp.new sa (o := .tup (vs.drop ps.length)) hq
    refine ⟨by rw [List.length_append, List.length_take]; simp only [List.length_singleton]; omega, T.new q (.tup (vs.drop ps.length)), m, _, rfl, sa.new hq, ((rd.take _).stp st).append (.cons (.tup (.inl (.inl upd_same)) ((rd.drop _).stp st)) .nil), p.step st⟩
  · exact p.elim
end
section
variable {X : Cx} {a b c e o tg : Expr} {es : List Expr} {ta tb tc te to u : DE} {t : DA} {pos p p2 apos cpos : Pos} {k : Nat} {x mn : Str} {G : DFn} {f : Addr}
theorem run_fnSt {A : Around} {pins : List (Addr × Obj)} {σ : L2.St} {S : Wd} {m : Mu} {s : Shared} {Q : VK} {us : List Value} {vs : List V} {das : List D} (F : FnS X.prog X.w X.K X.mg X.base k f G) (hr : Room k A)
    (hA : A.frames = X.A.frames) (I : Inv X pins σ S.H s) (sa : Sta X.K S m) (r : Reps X.K S.i S.F das vs) (rv : Vals vs us) (h : PostD X.K S (G das m) Q (fun c d H => Fly X c d σ H)) : wpAny (model X.prog X.w) A (call (.ref f) us) (EP X pins σ Q) X.xe s := by
  have e0 := I.env0
  have e1 : Env0 X.prog X.w X.K X.mg X.base A X.stack s S.H := ⟨hA.trans e0.frames, e0.mod, e0.bs, e0.bsz, e0.funs, e0.frf, e0.hok, e0.bare⟩
  refine wpAny_call (codeAny_mono (F A X.stack s S.H us vs Q (fun c d H => Fly X c d σ H) hr e1 rv ⟨S, m, _, rfl, sa, r, h⟩) fun r s' hq => ?_)
  cases r with
  | error e =>
    obtain ⟨a, B, sI, pins', σ', H', cls, d, e1, I', nb, up, sky, na, os, ag, e2, fl⟩ := XE.of_call I (W := fun c d σ' H => σ' = σ ∧ Fly X c d σ H) (fun cls d H' h => ⟨rfl, h⟩) hq
    exact fl e s' ⟨a, B, sI, pins', σ', H', cls, d, e1, I', nb, up, sky, na, os, ag, rfl, rfl, e2, rfl⟩
  | ok fl =>
    cases fl with
    | ret u => exact I.after hq
    | next => exact False.elim hq
    | brk => exact False.elim hq
    | cont => exact False.elim hq
/-- x(a, ..), x a def with a star parameter -/
theorem pd_funS (F : FSt X.prog X.w X.K X.mg X.base k x G) (hr : Room k X.A) (ha : PDA X (e :: es) t)
    (hg : Gl X x := by rfl) (hdb : (x == ("__debug__" : Str)) = false := by decide) (he : starEach (e :: es) X.env = (false, eval e X.env) :: starEach es X.env := by exact se_cons _ _ _ rfl) (hpl : (backTo pos (starEach es X.env)).any (·.1) = false := by exact se_any _ _ _ rfl) :
    PDE X (.Call (.Name x p) (e :: es) [] pos) (dFun G t) := by
  obtain ⟨f, hm, hk, hf⟩ := F.ex
  intro S r m σ Q sa re q pins s I
  refine wpAny_Call_Name_kw (ld_glob I hg hm ?_ hdb)
  refine PySem.W.callWith_K (h₀ := X.base) I.ok.mod.kin hk (thn (ha.run sa re q I pos) ?_) he hpl
  rintro us s1 ⟨xs, ds, m1, T, st, sa1, rds, rv, I1, q1⟩
  exact ⟨I1.kIn, run_fnSt hf hr rfl I1 sa1 rds rv q1⟩
theorem pd_funS0 (F : FSt X.prog X.w X.K X.mg X.base k x G) (hr : Room k X.A)
    (hg : Gl X x := by rfl) (hdb : (x == ("__debug__" : Str)) = false := by decide) : PDE X (.Call (.Name x p) [] [] pos) (dFun G dNil) := by
  obtain ⟨f, hm, hk, hf⟩ := F.ex
  intro S r m σ Q sa re q pins s I
  refine wpAny_Call_Name_kw (ld_glob I hg hm ?_ hdb)
  exact PySem.W.callWith_K0 I.kIn hk (run_fnSt (us := []) hf hr rfl I sa .nil .nil q)
/-- x(*ys) -/
theorem pd_funS1 (F : FSt X.prog X.w X.K X.mg X.base k x G) (hr : Room k X.A) (he : PDE X e te)
    (hg : Gl X x := by rfl) (hdb : (x == ("__debug__" : Str)) = false := by decide) (hst : starEach [.Starred e p2] X.env = [(true, eval e X.env)] := by rfl) :
    PDE X (.Call (.Name x p) [.Starred e p2] [] pos) (dFun G (dStar te dNil)) := by
  obtain ⟨f, hm, hk, hf⟩ := F.ex
  intro S r m σ Q sa re q pins s I
  refine wpAny_Call_Name_kw (ld_glob I hg hm ?_ hdb)
  unfold dFun dStar at q
  rw [resB_assoc] at q
  refine PySem.W.callWith_S (h₀ := X.base) I.ok.mod.kin hk (thn (he.run sa re q I) ?_) hst
  rintro u s1 ⟨y, d, m1, T, st, sa1, rd, rx, I1, q1⟩
  split at q1
  · rename_i ds e1
    obtain ⟨a, xs, rfl, h1, h2⟩ := seqA_ok sa1 rd e1
    obtain rfl : u = Value.ref a := rx
    refine StX.star_any I1 h1.symm fun us s2 I2 rv => ⟨I2.kIn, ?_⟩
    exact run_fnSt (us := us) hf hr rfl I2 sa1 h2 rv (by simpa [dNil, Res.bind] using q1)
  · exact (show False from q1).elim
end
end DL

namespace DL
open PySem PySem.Spec PySem.Calls PyProof.Rows L2
variable [LamTab]
section
variable {P : Program} {w : World} {K : PySem.W.Frag} {mg : Str → Option Value} {base : Heap}
/-- a plain def with its defaults is one of any number of arguments -/
theorem FnD.star {k : Nat} {f : Addr} {fd : FuncData} {ps : List Str} {G : DFn} {dds : List D} (F : FnD P w K mg base k f fd ps G) (hb : Bd K fd ps dds) : FnS P w K mg base k f (padF ps.length dds G) := by
  obtain ⟨ds, dvs, hb, hd, hD⟩ := hb.ex
  refine (F.raw hb hd).imp fun vs H Q E h => ?_
  obtain ⟨S, m, das, rfl, sa, r, p⟩ := h
  unfold padF at p
  split at p
  · rename_i hl
    have r1 : Reps K S.i S.F (das ++ dds) (vs ++ dvs) := r.append (hD _ _)
    exact ⟨by rw [← r1.len]; exact hl, S, m, _, rfl, sa, r1, p⟩
  · exact p.elim
end
/-- keywords, where there are defaults -/
theorem bkD {K : PySem.W.Frag} {x qual : Str} {params : Arguments} {body : List Stmt} {scope : Scope} {dvs : List V} {kws : List (Str × V)} {f : Addr} {fd : FuncData} {ps : List Str} (F : FunD K x qual params body scope dvs kws f fd) (n : Nat) (ks : List Str) (pl : List Nat) {dds : List D} (hd : dvs ≠ []) (hD : ∀ (i : List Addr) (F : Hp), Reps K i F dds dvs)
    (h : ∀ (T : Addr) (kV doc pm : Value) (an : Option Addr) (cdv ct : Value) (us ws its : List Value), us.length = n → ws.length = ks.length → its.length = dvs.length →
      ∃ k, bindArgs (PySem.W.fnOf x qual params body scope (.ref T) kV doc pm an cdv ct) ⟨us, ks.zip ws⟩ = seqItems? (.ref T) >>= k ∧ k (some its.toArray) = pure (ps.zip (pl.filterMap fun i => (us ++ ws ++ its)[i]?)) ∧ (pl.filterMap fun i => (us ++ ws ++ its)[i]?).length = ps.length) : BK K fd ps n ks pl dds := by
  obtain ⟨oc, od, dV, kV, doc, pm, an, cdv, ct, osl, rfl, lk, hcd, hV, hK⟩ := F.ex
  rcases hV with ⟨e, _⟩ | ⟨_, T, o, its, m, rfl, lT, oT, rT⟩
  · exact absurd e hd
  · refine ⟨its, dvs, rT, hD, fun s us ws X l1 l2 => ?_⟩
    obtain ⟨k, e1, e2, e3⟩ := h T kV doc pm an cdv ct us ws its l1 l2 rT.length.symm
    refine ⟨BindsTo.of_looks fun M => ?_, e3⟩
    rw [e1]
    exact looks_items X lT oT (.of_pure e2)
section
variable (P : Program) (w : World) (K : PySem.W.Frag) (mg : Str → Option Value) (base : Heap)
/-- x.mn, x a class, mn a classmethod of it -/
structure CMt (k : Nat) (x mn : Str) (G : DFn) : Prop where
  ex : ∃ (C pp g : Addr) (G0 : DFn), mg x = some (.ref C) ∧ ClX.CRead K C (.type "type") ∧ ClX.CMet K C (.type "type") mn pp g ∧ FnS P w K mg base k g G0 ∧ G = fun ds => G0 (.val (.ref C) :: ds)
end
section
variable {X : Cx} {a b c e o tg : Expr} {es : List Expr} {ta tb tc te to u : DE} {t : DA} {pos p p2 apos cpos : Pos} {k : Nat} {x mn : Str} {G : DFn} {f C : Addr}
/-- the call of a classmethod's record -/
theorem run_cmS {pins : List (Addr × Obj)} {σ : L2.St} {S : Wd} {m : Mu} {s : Shared} {Q : VK} {us : List Value} {vs : List V} {das : List D} {q g : Addr} (F : FnS X.prog X.w X.K X.mg X.base k g G) (hr : Room k X.A)
    (I : Inv X ((q, PySem.W.methodObj (.ref g) (.ref C)) :: pins) σ S.H s) (sa : Sta X.K S m) (r : Reps X.K S.i S.F das vs) (rv : Vals vs us) (h : PostD X.K S (G (.val (.ref C) :: das) m) Q (fun c d H => Fly X c d σ H)) :
    wpAny (model X.prog X.w) X.A (call (.ref q) us) (EP X pins σ Q) X.xe s := by
  have z : wpAny (model X.prog X.w) X.A (call (.ref q) us) (EP X ((q, PySem.W.methodObj (.ref g) (.ref C)) :: pins) σ Q) X.xe s := by
    refine wpAny_call (PySem.W.method_call (ClX.pin_at I) (codeAny_mono (F X.A X.stack s S.H (.ref C :: us) (.ref C :: vs) Q (fun c d H => Fly X c d σ H) hr I.env0 (.cons rfl rv) ⟨S, m, _, rfl, sa, .cons (.val _) r, h⟩) fun r s' hq => ?_))
    cases r with
    | error e =>
      obtain ⟨a, B, sI, pins', σ', H', cls, d, e1, I', nb, up, sky, na, os, ag, e2, fl⟩ := XE.of_call I (W := fun c d σ' H => σ' = σ ∧ Fly X c d σ H) (fun cls d H' h => ⟨rfl, h⟩) hq
      exact fl e s' ⟨a, B, sI, pins', σ', H', cls, d, e1, I', nb, up, sky, na, os, ag, rfl, rfl, e2, rfl⟩
    | ok fl =>
      cases fl with
      | ret u => exact I.after hq
      | next => exact False.elim hq
      | brk => exact False.elim hq
      | cont => exact False.elim hq
  exact thn z fun _ _ y => ClX.unpinE y
theorem pd_cmeth {pl : Sem Bool} (F : CMt X.prog X.w X.K X.mg X.base k x mn G) (hr : Room k X.A) (ha : PDA X (e :: es) t)
    (hg : Gl X x := by rfl) (hdb : (x == ("__debug__" : Str)) = false := by decide)
    (hst : starEach (e :: es) X.env = (false, eval e X.env) :: starEach es X.env := by exact se_cons _ _ _ rfl) (hpl : (backTo pos (starEach es X.env)).any (·.1) = false := by exact se_any _ _ _ rfl)
    (ht : eval (.Call (.Attribute (.Name x p2) mn apos) (e :: es) [] pos) X.env = (do
      let ov ← eval (.Name x p2) X.env
      standAt apos.atName
      let (f, first) ← holding [ov] (getMethod ov mn pl)
      callWith pos f first (backTo pos (starEach (e :: es) X.env)) (backToKw pos (keywordEach [] X.env))) := by rfl) :
    PDE X (.Call (.Attribute (.Name x p2) mn apos) (e :: es) [] pos) (dFun G t) := by
  obtain ⟨C, pp, g, G0, hm, r1, c1, hf, rfl⟩ := F.ex
  intro S r m σ Q sa re q pins s I
  refine PySem.W.methodCall_KW (pl := pl) (ld_glob I hg hm ?_ hdb) ht
  refine ClX.getmethcm_ok I r1 c1 fun s2 I2 => ?_
  refine ClX.callwith_cm I2 (ClX.base_none I (Nat.le_refl _)) c1.fi (thn (ha.run sa re q I2 pos) ?_) hst hpl
  rintro us s3 ⟨xs, das, m2, U, st2, sa2, rds, rv, I3, q2⟩
  exact ⟨⟨ClX.pin_at I3, I3.kIn⟩, run_cmS hf hr I3 sa2 rds rv q2⟩
/-- x.f, x a class, f a constant of it -/
structure CCon (K : PySem.W.Frag) (mg : Str → Option Value) (x f : Str) (d : D) : Prop where
  ex : ∃ (C : Addr) (v : V) (u : Value), mg x = some (.ref C) ∧ ClX.CRead K C (.type "type") ∧ ClX.CVal K C (.type "type") f v u ∧ RepA K d v
theorem pd_cval {f : Str} {d : D} (F : CCon X.K X.mg x f d) (hg : Gl X x := by rfl) (hdb : (x == ("__debug__" : Str)) = false := by decide)
    (hb : attributeBase (.Name x p2) f X.env (eval (.Name x p2) X.env) = eval (.Name x p2) X.env := by rfl) : PDE X (.Attribute (.Name x p2) f pos) (dC d) := by
  obtain ⟨C, v, u, hm, r1, c1, ra⟩ := F.ex
  exact pd_of (ClX.pe_cval (pe_glob (v := .ref C) hg hm rfl hdb) hb) fun S r m σ Q sa re q => ⟨C, _, v, u, rfl, r1, c1, Post.ok q (Stp.refl S) sa (ra.to _ _)⟩
/-- a class in a variable, called -/
noncomputable def dMakeV (i : Nat) (C : Addr) (G : DFn) (t : DA) : DE := fun e m => match e[i]? with
  | some (some (.val (.ref a))) => if a = C then dMake C G t e m else .stuck
  | _ => .stuck
@[simp ↓] theorem dMakeV_ap (i : Nat) (C : Addr) (G : DFn) (t : DA) (e : En) (m : Mu) : dMakeV i C G t e m = match e[i]? with
  | some (some (.val (.ref a))) => if a = C then dMake C G t e m else .stuck
  | _ => .stuck := rfl
theorem pd_makeV {i : Nat} {y : Str} (F : KT X.prog X.w X.K X.mg X.base k y C G) (hr : Room (k + 1) X.A) (ha : PDA X (e :: es) t)
    (hN : X.N[i]? = some x := by rfl) (hv : Vis X.env.scope x := by first | exact Or.inl rfl | exact Or.inr (Or.inl rfl) | exact Or.inr (Or.inr rfl)) (hd : (x == ("__debug__" : Str)) = false := by decide)
    (hcd : (x == ("__classdict__" : Str)) = false := by decide)
    (ht : eval (.Call (.Name x p) (e :: es) [] pos) X.env = (do callWith pos (← eval (.Name x p) X.env) [] (backTo pos (starEach (e :: es) X.env)) (backToKw pos (keywordEach [] X.env))) := by rfl)
    (he : starEach (e :: es) X.env = (false, eval e X.env) :: starEach es X.env := by exact se_cons _ _ _ rfl) (hpl : (backTo pos (starEach es X.env)).any (·.1) = false := by exact se_any _ _ _ rfl) :
    PDE X (.Call (.Name x p) (e :: es) [] pos) (dMakeV i C G t) := by
  intro S r m σ Q sa re q pins s I
  unfold dMakeV at q
  split at q
  · rename_i a e1
    split at q
    · rename_i hC
      subst hC
      obtain ⟨v, h1, h2⟩ := re.2 i _ e1
      cases h2
      refine Call_ (thn ((pe_var (i := i) hN hv hd hcd).run pins s σ S.H (fun v H => v = .ref a ∧ H = S.H) I ⟨_, h1, rfl, rfl⟩) fun u s1 ⟨y, H1, I1, ry, ey, eH⟩ => ?_) ht
      subst ey; subst eH
      obtain rfl : u = Value.ref a := ry
      obtain ⟨_, _, _, _, _, M, _⟩ := F.ex
      refine PySem.W.callWith_K (h₀ := X.base) I1.ok.mod.kin M.kp (thn (ha.run sa re q I1 pos) ?_) he hpl
      rintro us s1 ⟨xs, ds, m1, T, st, sa1, rds, rv, I1, q1⟩
      exact ⟨I1.kIn, run_mk F hr I1 sa1 rds rv q1⟩
    · exact q.elim
  · exact q.elim
end
end DL

set_option maxHeartbeats 4000000
/-! Own exceptions over ValueError, LookupError, IndexError, with own __init__s of any number of levels. -/
namespace DL
open PySem PySem.Spec PyProof.Rows L2
open PySem.W (excTail excTail_cases excTail_contains excTail_pass excInitIn excOver)
/-- what is asked of a built-in base -/
structure XB (B newId initId : String) (tl : List Value) : Prop where
  F : ExcBaseFacts B newId initId tl
  pass : ∀ self : Value, refuseLoop self "__setattr__" tl = pure ()
  obj : tl.contains (.type "object") = true
  ne : tl.isEmpty = false
  kx : PySem.W.KxsFacts B initId
theorem xb_VE : XB "ValueError" "ValueError.__new__" "ValueError.__init__" [.type "ValueError", .type "Exception", .type "BaseException", .type "object"] := ⟨F.excBase_ValueError, F.store_ValueError.passes, by decide +kernel, rfl, PySem.W.kxs_ValueError⟩
theorem xb_LE : XB "LookupError" "LookupError.__new__" "LookupError.__init__" [.type "LookupError", .type "Exception", .type "BaseException", .type "object"] := ⟨F.excBase_LookupError, F.store_LookupError.passes, by decide +kernel, rfl, PySem.W.kxs_LookupError⟩
theorem xb_IE : XB "IndexError" "IndexError.__new__" "IndexError.__init__" [.type "IndexError", .type "LookupError", .type "Exception", .type "BaseException", .type "object"] := ⟨F.excBase_IndexError, F.store_IndexError.passes, by decide +kernel, rfl, PySem.W.kxs_IndexError⟩
theorem tail_obj {tl : List Value} (h : tl.contains (.type "object") = true) {l : List Value} (e : excTail tl l = true) : l.contains (.type "object") = true := (excTail_contains "object" l e).trans h
section
open Builtin Builtin.ObjectAttr
variable {prog : Program} {w : World} {A : Around} {E : Value → Shared → Prop} {R : Result → Shared → Prop} {hp : Heap} {g : Array GenState} {d : Drawn} {t : Nat} {os : OsState}
theorem exg_osa {K : PySem.W.Frag} {name : Str} {tk : Tok} {v : Value} {x C : Addr} {fv : Array Value} {cd : ClassData}
    (X : K.In hp) (hx : hp.get? x = some { cls := .ref C, data := .fields fv }) (hcd : PySem.W.clsIn K C = some cd) (ne : cd.mro.isEmpty = false) (hob : cd.mro.contains (.type "object") = true) (hps : refuseLoop (.ref x) "__setattr__" cd.mro = pure ()) (hh : cd.hasDict = true) (ha : PySem.W.findIn K (.ref C) name = some none)
    (hq : ∀ h' tk' dx, (∀ b o, b ≠ x → hp.get? b = some o → h'.get? b = some o) → hp.objs.size ≤ dx → dx ≠ x → h'.get? x = some { cls := .ref C, dict := some dx, data := .fields fv } →
      h'.Ns1 dx (fun y => if y = name then some v else none) → R (.ok (.ret .none)) ⟨h', g, d, tk', os⟩) :
    codeAny (model prog w) A (.call (.builtin "object.__setattr__") ⟨[.ref x, .str name tk, v], []⟩) R ⟨hp, g, d, t, os⟩ := by
  have I : PySem.W.InstAt hp x { cls := .ref C, data := .fields fv } C none := ⟨hx, rfl, rfl, trivial⟩
  have SF := F.store_object
  have hxs : x ≠ hp.objs.size := Nat.ne_of_lt (Heap.lt_size hx)
  have sub : PySem.W.Looks (model prog w) hp (isInstance (.ref x) (.type "object")) true := I.type.andThen (PySem.W.looks_mroIn X (by unfold PySem.W.mroIn; rw [hcd, Option.bind_some, if_neg (by rw [ne]; decide), hob]))
  refine codeAny_call_builtin SF.slot.plain SF.entry (@PySem.W.check_slot (model prog w) _ _ ⟨hp, g, d, t, os⟩ "object.__setattr__" "object" "__setattr__" (.ref x) [.str name tk, v] [] _ SF.kind SF.split sub (SF.args (.ref x) (.str name tk) v) ?_)
  have hmr : PySem.W.Looks (model prog w) hp (mroOf (.ref C)) cd.mro := (PySem.W.looks_clsIn X hcd).andThen .now
  have L3 : PySem.W.Looks (model prog w) hp (storeTaker? none) none := .now
  have hcls : PySem.W.Looks (model prog w) hp (classData C) cd := PySem.W.looks_clsIn X hcd
  rw [PySem.W.osa_eq, refuse_eq]
  refine wpAny_bind (wpAny_bind (I.type.at (wpAny_bind (hmr.at ?_))))
  rw [hps]
  refine wpAny_pure (wpAny_bind (I.type.at (wpAny_bind ((PySem.W.looks_findIn X ha).at (wpAny_bind (L3.at ?_))))))
  show wpAny _ _ (storeInOwnDict (.ref x) (.ref C) (.str name tk) name v false) _ _ _
  obtain ⟨nm, bs, mro, ns, qn, hd, sn, sb, ab, col, del⟩ := cd
  dsimp only at hh
  subst hh
  unfold storeInOwnDict ownDictForStores
  repeat (first | with_reducible refine HandSPX.store_in_new ?_ ?_ | with_reducible refine wpAny_loadPart_at hx ?_ | with_reducible refine hcls.at ?_ | wp_step)
  · exact ⟨_, #[], _, (Heap.get?_update_ne _ _ _ _ hxs.symm).trans (Heap.get?_push_at rfl rfl), rfl, fun e he => absurd he (by simp), fun _ => rfl⟩
  · intro h' tk' hn' hs
    have hx₁ : (hp.push { cls := .type "dict", data := .dict #[] }).get? x = some { cls := .ref C, data := .fields fv } := Heap.get?_push_of_some _ hx
    refine hq h' tk' hp.objs.size (fun b o hb ho => ?_) (Nat.le_refl _) hxs.symm ?_ hn'
    · exact (hs.2 b (Nat.ne_of_lt (Heap.lt_size ho))).trans ((Heap.get?_update_ne _ _ _ _ hb).trans (Heap.get?_push_of_some _ ho))
    · exact (hs.2 x hxs).trans (Heap.get?_update_self _ hx₁ rfl)
theorem exg_osaD {K : PySem.W.Frag} {name : Str} {tk : Tok} {v : Value} {x C dx : Addr} {fv : Array Value} {cd : ClassData} {m0 : Str → Option Value} {nl : List Str}
    (X : K.In hp) (hx : hp.get? x = some { cls := .ref C, dict := some dx, data := .fields fv }) (hns : hp.Ns1 dx m0) (hw : Within m0 nl) (hz : nl.length ≤ 1000) (hcd : PySem.W.clsIn K C = some cd) (ne : cd.mro.isEmpty = false) (hob : cd.mro.contains (.type "object") = true) (hps : refuseLoop (.ref x) "__setattr__" cd.mro = pure ()) (hh : cd.hasDict = true)
    (ha : PySem.W.findIn K (.ref C) name = some none)
    (hq : ∀ h' tk', (∀ b o, b ≠ dx → hp.get? b = some o → h'.get? b = some o) → h'.Ns1 dx (fun y => if y = name then some v else m0 y) → R (.ok (.ret .none)) ⟨h', g, d, tk', os⟩) :
    codeAny (model prog w) A (.call (.builtin "object.__setattr__") ⟨[.ref x, .str name tk, v], []⟩) R ⟨hp, g, d, t, os⟩ := by
  obtain ⟨oD, esD, epD, hoD, hdD, _⟩ := hns.count hw
  have I : PySem.W.InstAt hp x { cls := .ref C, dict := some dx, data := .fields fv } C (some oD) := ⟨hx, rfl, rfl, hoD⟩
  have SF := F.store_object
  have sub : PySem.W.Looks (model prog w) hp (isInstance (.ref x) (.type "object")) true := I.type.andThen (PySem.W.looks_mroIn X (by unfold PySem.W.mroIn; rw [hcd, Option.bind_some, if_neg (by rw [ne]; decide), hob]))
  refine codeAny_call_builtin SF.slot.plain SF.entry (@PySem.W.check_slot (model prog w) _ _ ⟨hp, g, d, t, os⟩ "object.__setattr__" "object" "__setattr__" (.ref x) [.str name tk, v] [] _ SF.kind SF.split sub (SF.args (.ref x) (.str name tk) v) ?_)
  have hmr : PySem.W.Looks (model prog w) hp (mroOf (.ref C)) cd.mro := (PySem.W.looks_clsIn X hcd).andThen .now
  have L3 : PySem.W.Looks (model prog w) hp (storeTaker? none) none := .now
  have hcls : PySem.W.Looks (model prog w) hp (classData C) cd := PySem.W.looks_clsIn X hcd
  rw [PySem.W.osa_eq, refuse_eq]
  refine wpAny_bind (wpAny_bind (I.type.at (wpAny_bind (hmr.at ?_))))
  rw [hps]
  refine wpAny_pure (wpAny_bind (I.type.at (wpAny_bind ((PySem.W.looks_findIn X ha).at (wpAny_bind (L3.at ?_))))))
  show wpAny _ _ (storeInOwnDict (.ref x) (.ref C) (.str name tk) name v false) _ _ _
  obtain ⟨nm, bs, mro, ns, qn, hd, sn, sb, ab, col, del⟩ := cd
  dsimp only at hh
  subst hh
  unfold storeInOwnDict ownDictForStores
  repeat (first | with_reducible refine OEX.store_in_old hns hw hz ?_ | with_reducible refine wpAny_loadPart_at hx ?_ | with_reducible refine hcls.at ?_ | wp_step)
  intro h' tk' hn' hs
  exact hq h' tk' (fun b o hb ho => (hs.2 b hb).trans ho) hn'
end
/-- what the written part says of an own exception class -/
structure OexG (K : PySem.W.Frag) (C : Addr) : Prop where
  base : ∃ B newId initId tl, XB B newId initId tl ∧ excInitIn K C tl newId = true
  dict : PySem.W.hasDictIn K C = true
  sa : PySem.W.findIn K (.ref C) "__setattr__" = some (some (.builtin "object.__setattr__"))
  exC : PySem.W.subIn K (.ref C) (.type "BaseException") = some true
  tyC : PySem.W.typeIn K (.ref C) = some (.type "type")
  kC : PySem.W.keepIn K (.ref C) = true
theorem OexG.cls {K : PySem.W.Frag} {C : Addr} (T : OexG K C) : ∃ B newId initId tl nm N q bs bm sn sub ab col dd k0 k1 k2 k3 k5, XB B newId initId tl ∧ K.lookup C = some (excClassObj nm q C N bs bm true sn sub ab col dd k0 k1 k2 k3 k5 newId) ∧ excTail tl bm = true := by
  obtain ⟨B, newId, initId, tl, xb, q⟩ := T.base
  have hd := T.dict
  unfold excInitIn at q
  split at q
  · rename_i dd cd sl ho
    split at q
    · rename_i C' bm k0 k1 k2 k3 n k5 hm hs
      simp only [Bool.and_eq_true, beq_iff_eq, Bool.not_eq_true'] at q
      obtain ⟨⟨⟨rfl, rfl⟩, hdel⟩, ht⟩ := q
      obtain ⟨nm, bs, mro, ns, qn, hdd, sn, sub, ab, col, del⟩ := cd
      dsimp only at hm hdel
      subst hm hdel
      have hsl : sl = #[k0, k1, k2, k3, some (.builtin n), k5] := by
        obtain ⟨l⟩ := sl
        simp only at hs
        rw [hs]
      subst hsl
      have : hdd = true := by
        unfold PySem.W.hasDictIn PySem.W.clsIn at hd
        rw [ho] at hd
        exact hd
      subst this
      exact ⟨B, n, initId, tl, nm, ns, qn, bs, bm, sn, sub, ab, col, dd, k0, k1, k2, k3, k5, xb, ho, ht⟩
    · cases q
  · cases q
section
variable {X : Cx} {pins : List (Addr × Obj)} {σ : L2.St} {H : Hp} {s : Shared} {a C dx : Addr} {f : Str} {y : V} {u : Value} {fs : List (Str × V)} {Q : Unit → Shared → Prop} {E : Value → Shared → Prop} {A : Around}
/-- self.f = y, the first one -/
theorem xst_new (T : OexG X.K C) (I : Inv X pins σ H s) (e : H a = some (exo a C none)) (hno : PySem.W.findIn X.K (.ref C) f = some none) (ry : RelV y u)
    (h : ∀ dx s', H dx = none → dx ≠ a → Inv X pins σ (upd (upd H dx (exd dx [(f, y)])) a (exo a C (some dx))) s' → Q () s') : wpAny (model X.prog X.w) A (setAttr (.ref a) f u) Q E s := by
  obtain ⟨B, newId, initId, tl, nm, N, q, bs, bm, sn, sub, ab, col, dd, k0, k1, k2, k3, k5, xb, hC, hbm⟩ := T.cls
  have hcl : PySem.W.clsIn X.K C = some { name := nm, bases := bs, mro := .ref C :: bm, ns := N, qualname := q, hasDict := true, slotNames := sn, subclasses := sub, abstract := ab, collection := col, hasDel := false } := by unfold PySem.W.clsIn; rw [hC] <;> rfl
  obtain ⟨t1, ho⟩ := exo_at I.hok e
  obtain ⟨hp, g, d, t, os⟩ := s
  refine PySem.W.set_plain I.kIn (ox := { cls := .ref C, dict := none, data := .fields #[.ref t1, .none, .none, .none, .bool false, .none] }) (od := none) ⟨ho, rfl, rfl, trivial⟩ T.sa ?_
  refine exg_osa I.kIn ho hcl rfl (tail_obj xb.obj (show excTail tl (.ref C :: bm) = true from hbm)) (excTail_pass _ (xb.pass _) _ (show excTail tl (.ref C :: bm) = true from hbm)) rfl hno (fun h' tk' dx k dn dne hx hn => ?_)
  have hnd : H dx = none := I.hok.fresh dn
  have nd : ∀ {b : Addr} {o : Obj}, hp.get? b = some o → b ≠ dx := fun {b o} q => Nat.ne_of_lt (Nat.lt_of_lt_of_le (Heap.lt_size q) dn)
  have na : ∀ {b : Addr}, H b = none → b ≠ a := fun {b} n z => by
    rw [z, e] at n
    cases n
  have Un1 : Un X.fs [] H (upd (upd H dx (exd dx [(f, y)])) a (exo a C (some dx))) hp h' := {
    keep := fun b o q n _ _ => k b o (na n) q
    slot := fun b o q n _ _ => ⟨o.slots, k b o (na n) q⟩
    free := fun b o q n _ => by rw [upd_ne (na n), upd_ne (nd q)]; exact n
    there := fun b o q _ => by
      by_cases hb : b = a
      · exact ⟨_, by rw [hb]; exact hx⟩
      · exact ⟨o, k b o hb q⟩
    tups := fun b xs q => by rw [upd_ne (at_ne e q exo_tup), upd_ne (ne_of_none q hnd)]; exact q
    frzs := fun b o v q => by rw [upd_ne (at_ne e q exo_frz), upd_ne (ne_of_none q hnd)]; exact q
    tbls := fun b ps q => ⟨#[], by rw [upd_ne (at_ne e q exo_tbl), upd_ne (ne_of_none q hnd), q]; simp⟩ }
  refine h dx _ hnd dne (I.un (t' := tk') Un1 fun b o q => ?_)
  by_cases hb : b = a
  · subst hb
    rw [upd_same] at q
    cases q
    exact exo_ok hx
  · rw [upd_ne hb] at q
    by_cases hd : b = dx
    · subst hd
      rw [upd_same] at q
      cases q
      exact exd_ok hn (relO_put (fs := []) ry fun g => True.intro)
    · rw [upd_ne hd] at q
      exact (I.hok b o q).stay (fun c v hc z => k c v (by
          rcases hc with hc | hc
          · rw [hc]
            exact hb
          · exact at_ne e hc exo_own) z)
        (fun c hc => by rw [upd_ne (at_ne e hc exo_own), upd_ne (ne_of_none hc hnd)]; exact hc) (fun c xs hc => by rw [upd_ne (at_ne e hc exo_tup), upd_ne (ne_of_none hc hnd)]; exact hc)
/-- self.f = y, a further one -/
theorem xst_old (T : OexG X.K C) (I : Inv X pins σ H s) (e : H a = some (exo a C (some dx))) (ed : H dx = some (exd dx fs)) (hl : fs.length ≤ 900) (hno : PySem.W.findIn X.K (.ref C) f = some none) (ry : RelV y u)
    (h : ∀ s', Inv X pins σ (upd H dx (exd dx ((f, y) :: fs))) s' → Q () s') : wpAny (model X.prog X.w) A (setAttr (.ref a) f u) Q E s := by
  obtain ⟨B, newId, initId, tl, nm, N, q, bs, bm, sn, sub, ab, col, dd, k0, k1, k2, k3, k5, xb, hC, hbm⟩ := T.cls
  have hcl : PySem.W.clsIn X.K C = some { name := nm, bases := bs, mro := .ref C :: bm, ns := N, qualname := q, hasDict := true, slotNames := sn, subclasses := sub, abstract := ab, collection := col, hasDel := false } := by unfold PySem.W.clsIn; rw [hC] <;> rfl
  obtain ⟨t1, ho⟩ := exo_at I.hok e
  obtain ⟨mA, hns, rel⟩ := exd_at I.hok ed
  have hw := within_of rel
  obtain ⟨hp, g, d, t, os⟩ := s
  obtain ⟨oD, _, _, hoD, _, _⟩ := hns.count hw
  refine PySem.W.set_plain I.kIn (ox := { cls := .ref C, dict := some dx, data := .fields #[.ref t1, .none, .none, .none, .bool false, .none] }) (od := some oD) ⟨ho, rfl, rfl, hoD⟩ T.sa ?_
  refine exg_osaD I.kIn ho hns hw (by rw [List.length_map]; omega) hcl rfl (tail_obj xb.obj (show excTail tl (.ref C :: bm) = true from hbm)) (excTail_pass _ (xb.pass _) _ (show excTail tl (.ref C :: bm) = true from hbm)) rfl hno (fun h' tk' k hn => ?_)
  have hd : ∃ o, h'.get? dx = some o := by
    obtain ⟨o, _, _, e', _⟩ := hn
    exact ⟨o, e'⟩
  exact h _ (I.write (t' := tk') (x := dx) (e := dx) (o := exd dx ((f, y) :: fs)) (by rw [ed]; exact True.intro) (.inl rfl) k hd (exd_ok hn (relO_put ry rel)))
end
end DL

set_option maxHeartbeats 4000000
/-! super().__init__(..), the first statement of an own __init__; stores into an exception that is being made. -/
namespace DL
open PySem PySem.Spec PyProof.Rows L2
variable [LamTab]
/-! ### stores into an exception -/
def tXst (K : PySem.W.Frag) (f : Str) (to te : TE) : TS := fun D σ H => te σ H fun y H1 => to σ H1 fun x H2 => ∃ a C : Addr, x = .ref a ∧ OexG K C ∧ PySem.W.findIn K (.ref C) f = some none ∧
  ((H2 a = some (exo a C none) ∧ ∀ dx, H2 dx = none → dx ≠ a → D.nx σ (upd (upd H2 dx (exd dx [(f, y)])) a (exo a C (some dx)))) ∨
    ∃ (dx : Addr) (fs : List (Str × V)), H2 a = some (exo a C (some dx)) ∧ H2 dx = some (exd dx fs) ∧ fs.length ≤ 900 ∧ D.nx σ (upd H2 dx (exd dx ((f, y) :: fs))))
section
variable {X : Cx} {a e o : Expr} {es : List Expr} {ta to : DE} {te0 to0 : TE} {t : DA} {f : Str} {p p' p1 p2 pos : Pos}
theorem ps_xst (ho : PE X o to0) (he : PE X e te0) (hs : swapsWith e (some (.Attribute o f p')) pos.line X.env = pure false := by rfl) : PS X (.Assign [.Attribute o f p'] e pos) (tXst X.K f to0 te0) := by
  refine ⟨fun pins s σ H D I h => ?_⟩
  refine plainObj_wpAny_Assign_Attribute (thn (he.run pins s σ H _ I h) fun v s1 ⟨y, H1, I1, r1, q1⟩ => thn (ho.run pins s1 σ H1 _ I1 q1) fun u s2 ⟨x, H2, I2, r2, a, C, ex, T, hno, q⟩ => ?_) hs
  subst ex
  obtain rfl : u = Value.ref a := r2
  rcases q with ⟨ea, q⟩ | ⟨dx, fs, ea, ed, hl, q⟩
  · exact xst_new T I2 ea hno r1 fun dx s' n ne J => ⟨σ, _, J, q dx n ne⟩
  · exact xst_old T I2 ea ed hl hno r1 fun s' J => ⟨σ, _, J, q⟩
def dPutX (Cs : List Addr) (f : Str) (tv to : DE) : DS := fun e m => rsOf e (tv e m) fun v m1 => rsOf e (to e m1) fun o m2 => match o with
  | .loc n => match m2[n]? with
    | some (.exo C none) => if C ∈ Cs then .nx e ((m2 ++ [Mo.exd [(f, v)]]).set n (.exo C (some m2.length))) else .stuck
    | some (.exo C (some k)) => match m2[k]? with
      | some (.exd fs) => if C ∈ Cs ∧ fs.length ≤ 900 then .nx e (m2.set k (.exd ((f, v) :: fs))) else .stuck
      | _ => .stuck
    | _ => .stuck
  | _ => .stuck
@[simp ↓] theorem dPutX_ap (Cs : List Addr) (f : Str) (tv to : DE) (e : En) (m : Mu) : dPutX Cs f tv to e m = rsOf e (tv e m) fun v m1 => rsOf e (to e m1) fun o m2 => match o with
  | .loc n => match m2[n]? with
    | some (.exo C none) => if C ∈ Cs then .nx e ((m2 ++ [Mo.exd [(f, v)]]).set n (.exo C (some m2.length))) else .stuck
    | some (.exo C (some k)) => match m2[k]? with
      | some (.exd fs) => if C ∈ Cs ∧ fs.length ≤ 900 then .nx e (m2.set k (.exd ((f, v) :: fs))) else .stuck
      | _ => .stuck
    | _ => .stuck
  | _ => .stuck := rfl
theorem RepF.len' {K : PySem.W.Frag} {i : List Addr} {F : Hp} {fs : List (Str × D)} {vs : List (Str × V)} (r : RepF K i F fs vs) : fs.length = vs.length := r.len
theorem pds_putX {Cs : List Addr} (hv : PDE X a ta) (ho : PDE X o to) (hC : ∀ C ∈ Cs, OexG X.K C ∧ PySem.W.findIn X.K (.ref C) f = some none) (hs : swapsWith a (some (.Attribute o f p')) pos.line X.env = pure false := by rfl) :
    PDS X (.Assign [.Attribute o f p'] a pos) (dPutX Cs f ta to) := by
  refine ps_of (ps_xst (mxE X o) (mxE X a) hs) fun S r m σ N sa re p => ?_
  refine hv S r m σ _ sa re (PDE.stm re p fun v m1 vv T st sa1 rv q => ?_)
  refine ho T r m1 σ _ sa1 (re.stp st) (PDE.stm (re.stp st) q fun d m2 vo U st2 sa2 ro q2 => ?_)
  split at q2
  · rename_i n
    cases ro with
    | @loc _ a hn =>
    split at q2
    · rename_i C e1
      split at q2
      · rename_i hc
        obtain ⟨c1, c2⟩ := hC C hc
        have h1 : U.H a = some (exo a C none) := sa2.ok n _ _ hn e1
        refine ⟨a, C, rfl, c1, c2, .inl ⟨h1, fun dx hd hne => ?_⟩⟩
        have stA := Stp.tok sa2 (o := exd dx [(f, vv)]) hd
        have saA := sa2.tok (o := exd dx [(f, vv)]) hd (q := .exd [(f, v)]) ⟨[(f, vv)], upd_same, .cons ((rv.stp st2).stp stA) .nil⟩
        have hnA := pre_get stA.pre hn
        have hk : (U.tok dx (exd dx [(f, vv)])).i[m2.length]? = some dx := by
          show (U.i ++ [dx])[m2.length]? = some dx
          rw [← sa2.len, List.getElem?_append_right (Nat.le_refl _), Nat.sub_self]; rfl
        obtain ⟨stZ, saZ⟩ := saA.put (o := exo a C (some dx)) (q := .exo C (some m2.length)) hnA ⟨dx, hk, upd_same⟩
        exact q2 σ _ (stA.trans stZ) saZ (((re.stp st).stp st2).stp (stA.trans stZ))
      · exact q2.elim
    · rename_i C k e1
      split at q2
      · rename_i fs e2
        split at q2
        · rename_i hc
          obtain ⟨c1, c2⟩ := hC C hc.1
          obtain ⟨dx, hk, h1⟩ := sa2.ok n _ _ hn e1
          obtain ⟨vs, h2, h3⟩ := sa2.ok k _ _ hk e2
          refine ⟨a, C, rfl, c1, c2, .inr ⟨dx, vs, h1, h2, by rw [← h3.len]; exact hc.2, ?_⟩⟩
          obtain ⟨stZ, saZ⟩ := sa2.put (o := exd dx ((f, vv) :: vs)) (q := .exd ((f, v) :: fs)) hk ⟨_, upd_same, .cons (rv.stp st2) h3⟩
          exact q2 σ _ stZ saZ (((re.stp st).stp st2).stp stZ)
        · exact q2.elim
      · exact q2.elim
    · exact q2.elim
  · exact q2.elim
end
/-! ### super() -/
structure SupCx (X : Cx) (f D cc : Addr) (first : Str) : Prop where
  func : X.env.func = some f
  hks : X.env.kindOf "super" = some .globalImplicit
  hkc : X.env.kindOf "__class__" = some .free
  cel : X.env.cells.lookup ("__class__" : Str) = some cc
  cell : ∃ cl cld csl, X.K.lookup cc = some ⟨cl, cld, .cell (some (.ref D)), csl⟩
  cls : ∃ cdD, PySem.W.clsIn X.K D = some cdD
  fn : ∃ oc od fd osl ar, X.K.lookup f = some ⟨oc, od, .func fd, osl⟩ ∧ (fd.params.posonlyargs ++ fd.params.args).head? = some ar ∧ ar.arg = first
  code : ∃ cda ccl cdd vs ccs file tf, X.env.code = .ref cda ∧ X.K.lookup cda = some ⟨ccl, cdd, .fields vs, ccs⟩ ∧ vs[2]? = some (.str file tf) ∧ ((X.prog.main.file : Str) == file) = true
  top : (X.prog.main.scope.names.lookup ("super" : Str)).isSome = false
  hm : X.mg "super" = none
  n0 : X.N[0]? = some first
  loc : X.env.kindOf first = some .local
  st : PySem.W.nsIn X.K cStatics "thirdparty.any" = some none
/-- an object with its class -/
structure ObjC (h : Heap) (a C : Addr) : Prop where
  ex : ∃ ox : Obj, h.get? a = some ox ∧ ox.cls = .ref C ∧ PySem.W.notCls ox = true
section
variable {X : Cx} {f Dc cc : Addr} {first : Str} {pins : List (Addr × Obj)} {σ : L2.St} {H : Hp} {s : Shared} {a C : Addr} {body : List Stmt} {E : Value → Shared → Prop} {p0 p1 : Pos} {attr : Str} {whole : Sem Value}
theorem sup_base {Q : Value → Shared → Prop} (B : SupCx X f Dc cc first) (I : Inv X pins σ H s) (hσ : σ[0]? = some (some (.ref a))) (ho : ObjC s.heap a C) (hsub : PySem.W.mroIn X.K C (.ref Dc) = some true) (hat : (attr == ("__class__" : Str)) = false)
    (h : ∀ so s', Inv X pins σ H s' → s'.heap.get? so = some (PySem.W.ks_superObj Dc a C) → (∀ b o, s.heap.get? b = some o → s'.heap.get? b = some o) → Q (.ref so) s') :
    PySem.wpAt (model X.prog X.w) X.A (.func body X.env) (attributeBase (.Call (.Name "super" p0) [] [] p1) attr X.env whole) Q E s := by
  obtain ⟨cl, cld, csl, hcell⟩ := B.cell
  obtain ⟨cdD, hD⟩ := B.cls
  obtain ⟨oc, od, fd, osl, ar, lf, hp, har⟩ := B.fn
  obtain ⟨cda, ccl, cdd, vs, ccs, file, tf, hcode, lc, hvs, hfile⟩ := B.code
  have KX := I.kIn
  obtain ⟨oD, hD1, hD2⟩ : ∃ oD, s.heap.get? Dc = some oD ∧ oD.data = .cls cdD := by
    unfold PySem.W.clsIn at hD
    split at hD
    · rename_i c d cd' sl ho
      cases hD
      exact ⟨_, KX _ _ ho, rfl⟩
    · cases hD
  obtain ⟨ox, hx, hxc, hnc⟩ := ho.ex
  obtain ⟨mb, hb1, hb2⟩ := I.mod.blt
  obtain ⟨mm, hns, hl⟩ := id I.loc
  obtain ⟨u, ru, look⟩ := hl 0 first (.ref a) B.n0 hσ (.inl B.loc)
  obtain rfl : u = Value.ref a := ru
  have hmv : mm first = some (.ref a) := by
    rcases look with ⟨_, z⟩ | ⟨k, _⟩
    · exact z
    · rw [B.loc] at k
      rcases k with k | k <;> cases k
  refine ks_wpAt_super_base B.hks B.hkc hat B.func (KX _ _ lf) rfl hp hcode (KX _ _ lc) rfl hvs hfile B.top ?_
  refine PySem.W.ks_loadName_global I.ok.kind B.hks (Calls.loadGlobal_builtin (by rw [I.ok.glob]; exact I.mod.glob.keeps I.bk) B.hm (by rw [I.ok.blt]; exact hb1.keeps I.bk) ((hb2 _ (by decide +kernel)).trans (by first | rfl | kernel_rfl)) ⟨rfl, ?_⟩)
  refine wpAny_loadName_free I.ok.kind B.hkc B.cel ⟨_, KX _ _ hcell, rfl⟩ ?_
  rw [har]
  refine wpAny_loadName_local I.ok.kind B.loc hns hmv ?_
  obtain ⟨hp', g, d, t, os⟩ := s
  refine ks_wpAny_isType_cls hD1 hD2 ⟨rfl, ?_⟩
  refine ks_wpAny_call_super hD1 hD2 hx hxc (fun c e => ?_) (PySem.W.looks_mroIn KX hsub) (fun h' e k => ?_)
  · unfold PySem.W.notCls at hnc
    rw [e] at hnc
    exact Bool.noConfusion hnc
  · exact h _ _ (I.kept (t' := t) k) e k
/-- the method of a base, found by super() -/
structure SupM (P : Program) (w : World) (K : PySem.W.Frag) (mg : Str → Option Value) (base : Heap) (k : Nat) (Dc : Addr) (Cs : List Addr) (mn : Str) (G : DFn) : Prop where
  ex : ∃ (f2 : Addr) (fd : FuncData) (ps : List Str) (dds : List D) (G0 : DFn), (∀ C ∈ Cs, PySem.W.ks_superIn K C Dc mn = some (some (.ref f2)) ∧ PySem.W.mroIn K C (.ref Dc) = some true) ∧ PySem.W.typeIn K (.ref f2) = some (.type "function") ∧ PySem.W.fnIn K f2 = true ∧
    FnD P w K mg base k f2 fd ps G0 ∧ Bd K fd ps dds ∧ G = padF ps.length dds G0
def Mo.cls : Mo → Option Addr
  | .ins C _ => some C
  | .exo C none => some C
  | _ => none
def dSupR (Cs : List Addr) (G : DFn) (t : DA) : DE := fun e m => match e[(0 : Nat)]? with
  | some (some (.loc n)) => match (m[n]?).bind Mo.cls with
    | some C => if C ∈ Cs then (t e m).bind fun ds m1 => G (.loc n :: ds) m1 else .stuck
    | none => .stuck
  | _ => .stuck
def dSup (Cs : List Addr) (G : DFn) (t : DA) : DS := fun e m => rsOf e (dSupR Cs G t e m) fun _ m1 => .nx e m1
@[simp ↓] theorem dSupR_ap (Cs : List Addr) (G : DFn) (t : DA) (e : En) (m : Mu) : dSupR Cs G t e m = match e[(0 : Nat)]? with
  | some (some (.loc n)) => match (m[n]?).bind Mo.cls with
    | some C => if C ∈ Cs then (t e m).bind fun ds m1 => G (.loc n :: ds) m1 else .stuck
    | none => .stuck
  | _ => .stuck := rfl
@[simp ↓] theorem dSup_ap (Cs : List Addr) (G : DFn) (t : DA) (e : En) (m : Mu) : dSup Cs G t e m = rsOf e (dSupR Cs G t e m) fun _ m1 => .nx e m1 := rfl
theorem mo_obj {S : Wd} {m : Mu} {n : Nat} {o : Mo} {C : Addr} (I : Inv X pins σ S.H s) (sa : Sta X.K S m) (hn : S.i[n]? = some a) (e1 : m[n]? = some o) (hc : Mo.cls o = some C) : ObjC s.heap a C := by
  have q := sa.ok n a o hn e1
  cases o with
  | ins C' fs =>
    cases hc
    obtain ⟨dx, vs, h1, _⟩ := q
    obtain ⟨od, J⟩ := Inv.inst I h1
    exact ⟨_, J.at_, J.cls, J.no⟩
  | exo C' d =>
    cases d with
    | none =>
      cases hc
      obtain ⟨t1, ho⟩ := exo_at I.hok q
      exact ⟨_, ho, rfl, rfl⟩
    | some k => cases hc
  | _ => cases hc
/-- a function called with positional values: its answer -/
theorem run_fnC {k : Nat} {f : Addr} {fd : FuncData} {ps : List Str} {G : DFn} {dds : List D} {A : Around} {S : Wd} {m : Mu} {Q : VK} {us : List Value} {vs : List V} {das : List D} (F : FnD X.prog X.w X.K X.mg X.base k f fd ps G) (hr : Room k A) (hb : Bd X.K fd ps dds)
    (hA : A.frames = X.A.frames) (I : Inv X pins σ S.H s) (sa : Sta X.K S m) (r : Reps X.K S.i S.F das vs) (rv : Vals vs us) (h : PostD X.K S (padF ps.length dds G das m) Q (fun c d H => Fly X c d σ H)) :
    codeAny (model X.prog X.w) A (.call (.ref f) ⟨us, []⟩) (fun r s' => match r with | .ok (.ret u) => EP X pins σ Q u s' | .ok _ => False | .error e => X.xe e s') s := by
  unfold padF at h
  split at h
  · rename_i hl
    obtain ⟨ds, dvs, hb, hd, hD⟩ := hb.ex
    have r1 : Reps X.K S.i S.F (das ++ dds) (vs ++ dvs) := r.append (hD _ _)
    have r2 : Vals (vs ++ dvs) (us ++ ds) := rv.append hd
    have hlv : (vs ++ dvs).length = ps.length := by rw [← r1.len]; exact hl
    have hl2 : (us ++ ds).length = ps.length := by rw [← r2.length]; exact hlv
    have e0 := I.env0
    have e1 : Env0 X.prog X.w X.K X.mg X.base A X.stack s S.H := ⟨hA.trans e0.frames, e0.mod, e0.bs, e0.bsz, e0.funs, e0.frf, e0.hok, e0.bare⟩
    refine codeAny_mono (F.run A X.stack s S.H ⟨us, []⟩ (us ++ ds) (vs ++ dvs) Q (fun c d H => Fly X c d σ H) hr e1 (hb s us I.kIn hl2) r2 ⟨hlv, S, m, _, rfl, sa, r1, h⟩) fun r s' hq => ?_
    cases r with
    | error e =>
      obtain ⟨a, B, sI, pins', σ', H', cls, d, e1, I', nb, up, sky, na, os, ag, e2, fl⟩ := XE.of_call I (W := fun c d σ' H => σ' = σ ∧ Fly X c d σ H) (fun cls d H' h => ⟨rfl, h⟩) hq
      exact fl e s' ⟨a, B, sI, pins', σ', H', cls, d, e1, I', nb, up, sky, na, os, ag, rfl, rfl, e2, rfl⟩
    | ok fl =>
      cases fl with
      | ret u => exact I.after hq
      | next => exact False.elim hq
      | brk => exact False.elim hq
      | cont => exact False.elim hq
  · exact h.elim
/-- the same at the code of a def's body -/
def PDSat (X : Cx) (body : List Stmt) (st : Stmt) (u : DS) : Prop := ∀ S r m σ N, Sta X.K S m → RelE X.K S r σ → PostS X.K S (u r m) N (Fly X) → ∀ pins s, Inv X pins σ S.H s → PySem.wpAt (model X.prog X.w) X.A (.func body X.env) (exec st X.env) (SP X pins N) X.xe s
theorem pdsat_sup {k : Nat} {Cs : List Addr} {G : DFn} {t : DA} {e : Expr} {es : List Expr} {apos cpos spos : Pos} {pl : Sem Bool} (B : SupCx X f Dc cc first) (M : SupM X.prog X.w X.K X.mg X.base k Dc Cs "__init__" G) (hr : Room k X.A) (ha : PDA X (e :: es) t)
    (he : eval (.Call (.Attribute (.Call (.Name "super" p0) [] [] p1) "__init__" apos) (e :: es) [] cpos) X.env = (do
      let ov ← attributeBase (.Call (.Name "super" p0) [] [] p1) "__init__" X.env (eval (.Call (.Name "super" p0) [] [] p1) X.env)
      standAt apos.atName
      let (f, first) ← holding [ov] (getMethod ov "__init__" pl)
      callWith cpos f first (backTo cpos (starEach (e :: es) X.env)) []) := by rfl)
    (hi : interactive X.env = false := by rfl) (hs : swapsWith (.Call (.Attribute (.Call (.Name "super" p0) [] [] p1) "__init__" apos) (e :: es) [] cpos) none spos.line X.env = pure false := by rfl)
    (hst : starEach (e :: es) X.env = (false, eval e X.env) :: starEach es X.env := by exact se_cons _ _ _ rfl) (hpl : (backTo cpos (starEach es X.env)).any (·.1) = false := by exact se_any _ _ _ rfl) :
    PDSat X body (.Expr (.Call (.Attribute (.Call (.Name "super" p0) [] [] p1) "__init__" apos) (e :: es) [] cpos) spos) (dSup Cs G t) := by
  intro S r m σ N sa re p pins s I
  obtain ⟨f2, fd2, ps2, dds2, G0, hrows, hty, hfn, hF, hb, rfl⟩ := M.ex
  have p2 : PostD X.K S (dSupR Cs (padF ps2.length dds2 G0) t r m) (fun v H => N.nx σ H) (fun c d H => Fly X c d σ H) :=
    PDE.stm re p fun d m1 v T st sa1 rd q => q σ T (Stp.refl T) sa1 (re.stp st)
  unfold dSupR at p2
  split at p2
  · rename_i n hr0
    split at p2
    · rename_i C hC
      split at p2
      · rename_i hmem
        obtain ⟨vself, hσ, rself⟩ := re.2 0 _ hr0
        cases rself with
        | @loc _ a hn =>
        cases e1 : m[n]? with
        | none => rw [e1] at hC; cases hC
        | some o =>
        rw [e1] at hC
        have hC : Mo.cls o = some C := hC
        have ob := mo_obj I sa hn e1 hC
        obtain ⟨hsup, hmro⟩ := hrows C hmem
        refine ks_wpAt_Expr_any (ks_wpAt_MethodCall (sup_base B I hσ ob hmro (by decide +kernel) fun so s1 I1 hso hk => ?_) he) hi hs
        have KX := I1.kIn
        obtain ⟨ox, hx, hxc, hnc⟩ := ob.ex
        have hx1 := hk _ _ hx
        have hxC : a ≠ C := by
          rintro rfl
          unfold PySem.W.ks_superIn at hsup
          cases hc : PySem.W.clsIn X.K a with
          | none => rw [hc] at hsup; cases hsup
          | some cd =>
            unfold PySem.W.clsIn at hc
            split at hc
            · rename_i c d cd' sl ho
              have e := KX _ _ ho
              rw [hx1] at e
              cases e
              exact Bool.noConfusion hnc
            · cases hc
        obtain ⟨of, hof, hofc⟩ : ∃ of, s1.heap.get? f2 = some of ∧ of.cls = .type "function" := by
          have ht' : (X.K.lookup f2).map (·.cls) = some (.type "function") := hty
          cases z : X.K.lookup f2 with
          | none => rw [z] at ht'; cases ht'
          | some of => rw [z] at ht'; exact ⟨of, KX _ _ z, Option.some.inj ht'⟩
        cases hc : PySem.W.clsIn X.K C with
        | none => unfold PySem.W.ks_superIn at hsup; rw [hc] at hsup; cases hsup
        | some cd =>
        unfold PySem.W.ks_superIn at hsup
        rw [hc] at hsup
        obtain ⟨hp, g, d, t0, os⟩ := s1
        refine ks_wpAny_getMethod_super hso (PySem.W.looks_opaque KX B.st) (l₀ := cd.mro) (fun A Q E s k q => wpAny_bind ((PySem.W.looks_clsIn KX hc) A _ E s k (wpAny_pure q))) rfl KX hsup hof hofc hxC (by decide +kernel) ?_
        have nq : S.H hp.objs.size = none := I1.hok.fresh (Nat.le_refl _)
        have I2 : Inv X pins σ (upd S.H hp.objs.size (.met f2 a)) ⟨hp.push (PySem.W.methodObj (.ref f2) (.ref a)), g, d, t0 + 1, os⟩ := I1.laid (t' := t0 + 1) (a := hp.objs.size) (o := .met f2 a) (fun b u z => Heap.get?_push_of_some _ z) (Nat.le_refl _)
          (show (hp.push (PySem.W.methodObj (.ref f2) (.ref a))).get? hp.objs.size = some (PySem.W.methodObj (.ref f2) (.ref a)) from Heap.get?_push_size hp rfl)
        have f0 := sa.fresh nq
        have saQ := sa.hid (o := .met f2 a) f0.1 f0.2 (by rw [nq]; exact nofun)
        have stQ : Stp S (S.put hp.objs.size (.met f2 a)) := (Stp.refl S).hid nq
        show wpAny _ _ (callWith cpos (.ref hp.objs.size) [] (backTo cpos (starEach (e :: es) X.env)) []) _ _ _
        have pQ := Post.step (r := (t r m).bind fun ds m1 => padF ps2.length dds2 G0 (.loc n :: ds) m1) stQ p2
        have run := ha.run saQ (re.stp stQ) pQ I2 cpos
        rw [hst] at run ⊢
        refine PySem.W.callWith_of (P := PySem.W.MethP X.K hp.objs.size f2 (.ref a)) (by show ((false || (backTo cpos (starEach es X.env)).any (·.1)) || false) = false; rw [hpl]; rfl) (PySem.W.keeps_M hfn) (Calls.evalArgs_plain (thn run ?_))
        rintro us s3 ⟨xs, ds, m1, T, st1, sa1, rds, rv, I3, q3⟩
        obtain ⟨k1, k2, k3⟩ := st1.frame hp.objs.size (.met f2 a) (by exact nofun) (by show upd S.H _ _ _ = _; rw [upd_same]) f0.1 f0.2
        refine ⟨met_P I3 k1, ?_⟩
        have hn3 := pre_get (stQ.trans st1).pre hn
        refine wpAny_call (codeAny_mono (call_met I3 k1 (run_fnC hF hr hb rfl I3 sa1 (.cons (.loc hn3) rds) (.cons rfl rv) q3)) fun rr s4 hq => ?_)
        cases rr with
        | error er => exact hq
        | ok fl =>
          cases fl with
          | ret u =>
            obtain ⟨v, H', I4, _, q4⟩ := hq
            exact ⟨σ, H', I4, q4⟩
          | next => exact False.elim hq
          | brk => exact False.elim hq
          | cont => exact False.elim hq
      · exact p2.elim
    · exact p2.elim
  · exact p2.elim
end
end DL

set_option maxHeartbeats 4000000
/-! super().__init__ of a built-in base; defs that hold __class__; raise. -/
namespace DL
open PySem PySem.Spec PyProof.Rows L2
variable [LamTab]
open PySem.W (excInitIn excInit_of excObj excTup)
structure SupBi (K : PySem.W.Frag) (Dc C : Addr) : Prop where
  ex : ∃ B newId initId tl, XB B newId initId tl ∧ excInitIn K C tl newId = true ∧ PySem.W.ks_superIn K C Dc "__init__" = some (some (.builtin initId)) ∧ PySem.W.mroIn K C (.ref Dc) = some true ∧ PySem.W.subIn K (.ref C) (.type B) = some true
def dSupBR (Cs : List Addr) (t : DA) : DE := fun e m => match e[(0 : Nat)]? with
  | some (some (.loc n)) => match m[n]? with
    | some (.exo C none) => if C ∈ Cs then (t e m).bind fun ds m1 => match m1[n]? with
        | some (.exo C' none) => if C' = C ∧ ds.length ≤ sizeLine then .ok .non m1 else .stuck
        | _ => .stuck
      else .stuck
    | _ => .stuck
  | _ => .stuck
def dSupB (Cs : List Addr) (t : DA) : DS := fun e m => rsOf e (dSupBR Cs t e m) fun _ m1 => .nx e m1
@[simp ↓] theorem dSupBR_ap (Cs : List Addr) (t : DA) (e : En) (m : Mu) : dSupBR Cs t e m = match e[(0 : Nat)]? with
  | some (some (.loc n)) => match m[n]? with
    | some (.exo C none) => if C ∈ Cs then (t e m).bind fun ds m1 => match m1[n]? with
        | some (.exo C' none) => if C' = C ∧ ds.length ≤ sizeLine then .ok .non m1 else .stuck
        | _ => .stuck
      else .stuck
    | _ => .stuck
  | _ => .stuck := rfl
@[simp ↓] theorem dSupB_ap (Cs : List Addr) (t : DA) (e : En) (m : Mu) : dSupB Cs t e m = rsOf e (dSupBR Cs t e m) fun _ m1 => .nx e m1 := rfl
theorem pinO_ok {P : Program} {w : World} {H : Hp} {h : Heap} {b : Addr} {o : Obj} (e : h.get? b = some o) : ObjOk P w H h b (pinO b o) := ⟨e, ⟨o, e⟩, fun h1 h2 φ st => st _ φ⟩
section
variable {X : Cx} {f Dc cc : Addr} {first : Str} {pins : List (Addr × Obj)} {σ : L2.St} {H : Hp} {s : Shared} {a C : Addr} {body : List Stmt} {E : Value → Shared → Prop} {p0 p1 : Pos} {attr : Str} {whole : Sem Value}
/-- the built-in __init__, bound to the exception, called -/
theorem mw_call {A : Around} {B newId i : String} {tl : List Value} {q0 : Addr} {us : List Value} {Q : Value → Shared → Prop} (xb : XB B newId i tl) (q : excInitIn X.K C tl newId = true) (I : Inv X pins σ H s) (hq : s.heap.get? q0 = some (PySem.W.kxs_mw i a)) (e : H a = some (exo a C none)) (hl : us.length ≤ sizeLine)
    (h : ∀ s', Inv X pins σ H s' → Q .none s') : wpAny (model X.prog X.w) A (call (.ref q0) us) Q E s := by
  obtain ⟨nm, N', qn, bs, bm, hdct, sn, sub, ab, col, dd, k0, k1, k2, k3, k5, hC, hT⟩ := excInit_of I.kIn q
  obtain ⟨t1, ho⟩ := exo_at I.hok e
  obtain ⟨hp, g, d, t, os⟩ := s
  refine wpAny_call (codeAny_of_tree ?_)
  show wpAny _ A.in1 (callAny (.ref q0) ⟨us, []⟩) _ _ _
  simp only [callAny]
  refine wpAny_bind (wpAny_load hq ?_)
  simp only [PySem.W.kxs_mw, show (Value.type "method-wrapper" == Value.type "method" || Value.type "method-wrapper" == Value.type "builtin_function_or_method" || Value.type "method-wrapper" == Value.type "method-wrapper") = true by decide, if_true]
  refine PySem.W.KFB.if_so (by decide) ?_
  refine wpAny_bind (PySem.W.check_bound_init xb.F.toExcCallFacts hC ho rfl ?_)
  refine wpAny_bind (wpAny_pure (wpAny_pure ?_))
  refine ⟨plainId_quiet xb.F.init.plain _, codeAny_builtin xb.F.initEntry ?_⟩
  refine PySem.W.exc_init_tree (cls := .ref C) (t0 := t1) (dv := none) (c2 := .none) (c3 := .none) (b4 := .bool false) ho hl fun h' k hx ht => ?_
  have J := I.write (t' := t) (x := a) (e := a) (o := exo a C none) (by rw [e]; exact True.intro) (.inl rfl) k ⟨_, hx⟩ (exo_ok hx)
  have eu : upd H a (exo a C none) = H := by
    funext b
    by_cases hb : b = a
    · rw [hb, upd_same, e]
    · rw [upd_ne hb]
  rw [eu] at J
  exact h _ J
theorem pdsat_supB {Cs : List Addr} {t : DA} {e : Expr} {es : List Expr} {apos cpos spos : Pos} {pl : Sem Bool} (B : SupCx X f Dc cc first) (M : ∀ C ∈ Cs, SupBi X.K Dc C) (ha : PDA X (e :: es) t)
    (he : eval (.Call (.Attribute (.Call (.Name "super" p0) [] [] p1) "__init__" apos) (e :: es) [] cpos) X.env = (do
      let ov ← attributeBase (.Call (.Name "super" p0) [] [] p1) "__init__" X.env (eval (.Call (.Name "super" p0) [] [] p1) X.env)
      standAt apos.atName
      let (f, first) ← holding [ov] (getMethod ov "__init__" pl)
      callWith cpos f first (backTo cpos (starEach (e :: es) X.env)) []) := by rfl)
    (hi : interactive X.env = false := by rfl) (hs : swapsWith (.Call (.Attribute (.Call (.Name "super" p0) [] [] p1) "__init__" apos) (e :: es) [] cpos) none spos.line X.env = pure false := by rfl)
    (hst : starEach (e :: es) X.env = (false, eval e X.env) :: starEach es X.env := by exact se_cons _ _ _ rfl) (hpl : (backTo cpos (starEach es X.env)).any (·.1) = false := by exact se_any _ _ _ rfl) :
    PDSat X body (.Expr (.Call (.Attribute (.Call (.Name "super" p0) [] [] p1) "__init__" apos) (e :: es) [] cpos) spos) (dSupB Cs t) := by
  intro S r m σ N sa re p pins s I
  have p2 : PostD X.K S (dSupBR Cs t r m) (fun v H => N.nx σ H) (fun c d H => Fly X c d σ H) :=
    PDE.stm re p fun d m1 v T st sa1 rd q => q σ T (Stp.refl T) sa1 (re.stp st)
  unfold dSupBR at p2
  split at p2
  · rename_i n hr0
    split at p2
    · rename_i C e1
      split at p2
      · rename_i hmem
        obtain ⟨vself, hσ, rself⟩ := re.2 0 _ hr0
        cases rself with
        | @loc _ a hn =>
        have hexo : S.H a = some (exo a C none) := sa.ok n a _ hn e1
        have ob := mo_obj I sa hn e1 (show Mo.cls (.exo C none) = some C from rfl)
        obtain ⟨Bn, newId, i, tl, xb, hin, hsup, hmro, hsubB⟩ := (M C hmem).ex
        refine ks_wpAt_Expr_any (ks_wpAt_MethodCall (sup_base B I hσ ob hmro (by decide +kernel) fun so s1 I1 hso hk => ?_) he) hi hs
        have KX := I1.kIn
        obtain ⟨t1, hx0⟩ := exo_at I.hok hexo
        have hx1 := hk _ _ hx0
        have J : PySem.W.InstAt s1.heap a { cls := .ref C, dict := none, data := .fields #[.ref t1, .none, .none, .none, .bool false, .none] } C none := ⟨hx1, rfl, rfl, trivial⟩
        have hI : PySem.W.Looks (model X.prog X.w) s1.heap (isInstance (.ref a) (.type Bn)) true := J.type.andThen (PySem.W.looks_subIn KX hsubB)
        cases hc : PySem.W.clsIn X.K C with
        | none => unfold PySem.W.ks_superIn at hsup; rw [hc] at hsup; cases hsup
        | some cd =>
        unfold PySem.W.ks_superIn at hsup
        rw [hc] at hsup
        have hxC : a ≠ C := PySem.W.ks_ne KX J hc
        obtain ⟨hp, g, d, t0, os⟩ := s1
        refine PySem.W.kxs_getMethod xb.kx hso (PySem.W.looks_opaque KX B.st) (l₀ := cd.mro) (fun A Q E s k q => wpAny_bind ((PySem.W.looks_clsIn KX hc) A _ E s k (wpAny_pure q))) rfl KX hsup hI hxC (by decide +kernel) ?_
        have nq : S.H hp.objs.size = none := I1.hok.fresh (Nat.le_refl _)
        have gq : (hp.push (PySem.W.kxs_mw i a)).get? hp.objs.size = some (PySem.W.kxs_mw i a) := Heap.get?_push_size hp rfl
        have I2 : Inv X pins σ (upd S.H hp.objs.size (pinO hp.objs.size (PySem.W.kxs_mw i a))) ⟨hp.push (PySem.W.kxs_mw i a), g, d, t0 + 1, os⟩ := I1.laid (t' := t0 + 1) (a := hp.objs.size) (o := pinO hp.objs.size (PySem.W.kxs_mw i a)) (fun b u z => Heap.get?_push_of_some _ z) (Nat.le_refl _) (pinO_ok gq)
        have f0 := sa.fresh nq
        have saQ := sa.hid (o := pinO hp.objs.size (PySem.W.kxs_mw i a)) f0.1 f0.2 (by rw [nq]; exact nofun)
        have stQ : Stp S (S.put hp.objs.size (pinO hp.objs.size (PySem.W.kxs_mw i a))) := (Stp.refl S).hid nq
        show wpAny _ _ (callWith cpos (.ref hp.objs.size) [] (backTo cpos (starEach (e :: es) X.env)) []) _ _ _
        have pQ := Post.step (r := (t r m).bind fun ds m1 => match m1[n]? with
          | some (.exo C' none) => if C' = C ∧ ds.length ≤ sizeLine then Res.ok D.non m1 else .stuck
          | _ => .stuck) stQ p2
        have run := ha.run saQ (re.stp stQ) pQ I2 cpos
        rw [hst] at run ⊢
        refine PySem.W.kxs_callWith (i := i) (x := a) (by show (false || (backTo cpos (starEach es X.env)).any (·.1)) = false; rw [hpl]; rfl) (Calls.evalArgs_plain (thn run ?_))
        rintro us s3 ⟨xs, ds, m1, T, st1, sa1, rds, rv, I3, q3⟩
        obtain ⟨k1, k2, k3⟩ := st1.frame hp.objs.size (pinO hp.objs.size (PySem.W.kxs_mw i a)) (by unfold pinO; exact nofun) (by show upd S.H _ _ _ = _; rw [upd_same]) f0.1 f0.2
        have hq3 : s3.heap.get? hp.objs.size = some (PySem.W.kxs_mw i a) := (I3.hok _ _ k1).1
        refine ⟨hq3, ?_⟩
        split at q3
        · rename_i C' e2
          split at q3
          · rename_i hcc
            obtain ⟨rfl, hlen⟩ := hcc
            have hn3 := pre_get (stQ.trans st1).pre hn
            have hexo3 : T.H a = some (exo a C' none) := sa1.ok n a _ hn3 e2
            exact mw_call xb hin I3 hq3 hexo3 (show us.length ≤ sizeLine from by rw [← rv.length, ← rds.len]; exact hlen) fun s4 I4 => ⟨σ, _, I4, q3 .non T (Stp.refl T) sa1 .non⟩
          · exact q3.elim
        · exact q3.elim
      · exact p2.elim
    · exact p2.elim
  · exact p2.elim
end
/-! ### defs that hold __class__ -/
structure FnScopeS (N P : List Str) (sc : Scope) : Prop where
  kind : sc.kind = .function
  co : sc.isCoroutine = false
  gen : sc.isGenerator = false
  nd : N.Nodup
  pre : N.take P.length = P
  par : ∀ x ∈ P, sc.names.lookup x = some .local
  nocell : ∀ y ∈ sc.names, y.2 ≠ .cell
  free : ∀ y ∈ sc.names, y.2 = .free → y.1 = "__class__"
structure FunS (P : Program) (K : PySem.W.Frag) (x qual : Str) (params : Arguments) (body : List Stmt) (scope : Scope) (dvs : List V) (f : Addr) (fd : FuncData) (Dc cc : Addr) : Prop where
  ex : ∃ (oc : Value) (od : Option Addr) (dV kV doc pm : Value) (an : Option Addr) (cda : Addr) (ct : Value) (osl : Array (Option Value)),
    fd = PySem.W.fnX x qual params body scope [("__class__", cc)] dV kV doc pm an (.ref cda) ct ∧ K.lookup f = some ⟨oc, od, .func fd, osl⟩ ∧ PySem.W.codeIn K (.ref cda) qual = true ∧ DflV K dV dvs ∧
    ∃ ccl cdd vs ccs file tf, K.lookup cda = some ⟨ccl, cdd, .fields vs, ccs⟩ ∧ vs[2]? = some (.str file tf) ∧ ((P.main.file : Str) == file) = true
  cell : ∃ cl cld csl, K.lookup cc = some ⟨cl, cld, .cell (some (.ref Dc)), csl⟩
  cls : ∃ cdD, PySem.W.clsIn K Dc = some cdD
  kp : PySem.W.keepIn K (.ref f) = true
def cxS (CX : CXT) (P : Program) (w : World) (K : PySem.W.Frag) (mg : Str → Option Value) (base : Heap) (N : List Str) (qual : Str) (scope : Scope) (f : Addr) (cd : Value) (cc : Addr) (A : Around) (outer : List Env) (s : Shared) (H : Hp) (E : XK) : Cx where
  prog := P
  w := w
  K := K
  mg := mg
  base := base
  A := A.deeper (PySem.W.ksEnv qual scope s.heap.objs.size f cd cc)
  N := N
  s_0 := s
  H_0 := H
  env := PySem.W.ksEnv qual scope s.heap.objs.size f cd cc
  outer := outer
  stack := PySem.W.ksEnv qual scope s.heap.objs.size f cd cc :: outer
  ex := []
  calm := true
  fn := fun _ => false
  pn := []
  xe := fun e s' => wpAny (model P w) (A.deeper (PySem.W.ksEnv qual scope s.heap.objs.size f cd cc)) (leaving (PySem.W.ksEnv qual scope s.heap.objs.size f cd cc) e) (fun _ s'' => CX outer H s E e s'') (fun e' s'' => CX outer H s E e' s'') s'
theorem lookup_nodup {y : Str} {u : Value} : ∀ {l : List (Str × Value)}, (l.map (·.1)).Nodup → (y, u) ∈ l → l.lookup y = some u
  | [], _, h => by cases h
  | (z, w) :: l, hn, h => by
    rw [List.map_cons, List.nodup_cons] at hn
    rw [List.lookup_cons]
    rcases List.mem_cons.mp h with e | h
    · cases e
      simp
    · have hne : y ≠ z := fun e => hn.1 (e ▸ List.mem_map_of_mem (f := (·.1)) h)
      have : (y == z) = false := by simp [hne]
      rw [this]
      exact lookup_nodup hn.2 h
theorem rev_zip {ps : List Str} {us : List Value} (nd : ps.Nodup) (hl : ps.length = us.length) {i : Nat} {y : Str} {u : Value} (h1 : ps[i]? = some y) (h2 : us[i]? = some u) : (ps.zip us).reverse.lookup y = some u := by
  refine lookup_nodup ?_ ?_
  · rw [List.map_reverse]
    refine List.pairwise_reverse.mpr ?_
    rw [List.map_fst_zip (by omega)]
    exact nd.imp fun h => Ne.symm h
  · rw [List.mem_reverse]
    refine List.mem_of_getElem? (i := i) ?_
    rw [List.getElem?_zip_eq_some]
    exact ⟨h1, h2⟩
section
variable {P : Program} {w : World} {K : PySem.W.Frag} {mg : Str → Option Value} {base : Heap}
theorem inv_startS {CX : CXT} {N ps : List Str} {qual : Str} {scope : Scope} {f : Addr} {cd : Value} {cc Dc : Addr} {A : Around} {outer : List Env} {s : Shared} {h₁ : Heap} {tk : Nat} {H : Hp} {E : XK} {us : List Value} {vs : List V}
    (S : FnScopeS N ps scope) (hd : A.handled = none) (e0 : Env0 P w K mg base A outer s H) (hl : vs.length = ps.length) (r : Vals vs us) (hcell : ∃ cl cld csl, K.lookup cc = some ⟨cl, cld, .cell (some (.ref Dc)), csl⟩)
    (hns : h₁.Ns s.heap.objs.size fun x => (ps.zip us).reverse.lookup x) (kp : ∀ b o, s.heap.get? b = some o → h₁.get? b = some o) :
    Inv (cxS CX P w K mg base N qual scope f cd cc A outer s H E) [] (L2.start N vs) H { s with heap := h₁, toks := tk } := by
  have hpl : ps.length ≤ N.length := by have := congrArg List.length S.pre; rw [List.length_take] at this; omega
  obtain ⟨cl, cld, csl, hcl⟩ := hcell
  have gB := e0.mod.kin _ _ hcl
  obtain ⟨gS, nS⟩ := e0.bs _ _ gB
  have g1 := kp _ _ gS
  have noA : ∀ b : Addr, b ∉ (cxS CX P w K mg base N qual scope f cd cc A outer s H E).ex := fun b z => absurd (show b ∈ ([] : List Addr) from z) (by simp)
  have lk : ∀ {y : Str} {c : Addr}, ([("__class__", cc)] : List (Str × Addr)).lookup y = some c → y = "__class__" ∧ c = cc := fun {y c} h => by
    rw [List.lookup_cons] at h
    split at h
    · rename_i e
      cases h
      exact ⟨by simpa using e, rfl⟩
    · cases h
  have lus : us.length = ps.length := by rw [← r.length]; exact hl
  refine ⟨⟨e0.mod, S.kind, rfl, rfl, Nat.le_refl _, fun y z c h1 h2 => (lk h1).1.trans (lk h2).1.symm, fun y hy => ?_, fun y c z _ => ?_, fun _ => hd, Around.frames_deeper e0.frames, .inr ⟨rfl, rfl⟩, fun b z => absurd z (noA b), e0.bs, e0.bsz, fun b _ _ => noA b, fun b z => absurd z (noA b), e0.funs, e0.frf⟩,
    rfl, e0.bare, Un.kept kp, ⟨_, hns, fun i y v h1 h2 h3 => ?_⟩, fun y c h => ⟨some (.ref Dc), by rw [(lk h).2]; exact ⟨_, g1, rfl⟩⟩, e0.hok.fresh (Nat.le_refl _), fun y c h => ?_, fun p hp => absurd (show p ∈ ([] : List (Addr × Obj)) ++ [] from hp) (by simp), e0.hok.kept kp, ?_⟩
  · have hy : scope.names.lookup y = some .cell ∨ scope.names.lookup y = some .free := hy
    rcases hy with hy | hy
    · exact absurd rfl (S.nocell _ (PySem.mem_of_lookup hy))
    · have e : y = "__class__" := S.free _ (PySem.mem_of_lookup hy) rfl
      exact ⟨cc, by subst e; rfl⟩
  · cases (show false = true from z)
  · have hi : i < vs.length := by
      unfold L2.start at h2
      by_cases hi : i < vs.length
      · exact hi
      · rw [List.getElem?_append_right (by simpa using hi)] at h2
        rw [List.getElem?_replicate] at h2
        split at h2 <;> cases h2
    have ha : vs[i]? = some v := by
      unfold L2.start at h2
      rw [List.getElem?_append_left (by simpa using hi), List.getElem?_map] at h2
      cases e : vs[i]? with
      | none => rw [e] at h2; cases h2
      | some a => rw [e] at h2; cases h2; rfl
    obtain ⟨u, hu, rv⟩ := r.get ha
    have hp : ps[i]? = some y := by
      rw [← S.pre, List.getElem?_take_of_lt (by omega)]; exact h1
    have ndP : ps.Nodup := by rw [← S.pre]; exact S.nd.sublist (List.take_sublist _ _)
    exact ⟨u, rv, .inl ⟨S.par y (List.mem_of_getElem? hp), rev_zip ndP lus.symm hp hu⟩⟩
  · rw [(lk h).2]; exact nS
  · unfold L2.start
    show _ = N.length
    rw [List.length_append, List.length_map, List.length_replicate]
    omega
theorem fnS_of {x qual : Str} {params : Arguments} {st : Stmt} {rest : List Stmt} {scope : Scope} {dvs : List V} {f : Addr} {fd : FuncData} {Dc cc : Addr} {N ps : List Str} {k : Nat} {u v : DS} (F : FunS P K x qual params (st :: rest) scope dvs f fd Dc cc) (S : FnScopeS N ps scope)
    (h : ∀ (cdv : Value) (A : Around) (outer : List Env) (s : Shared) (H : Hp) (E : XK), (∃ cda : Addr, cdv = .ref cda ∧ ∃ ccl cdd vs ccs file tf, K.lookup cda = some ⟨ccl, cdd, .fields vs, ccs⟩ ∧ vs[2]? = some (.str file tf) ∧ ((P.main.file : Str) == file) = true) → Room k (A.deeper (PySem.W.ksEnv qual scope s.heap.objs.size f cdv cc)) →
      PDSat (cxS (L2.CX P w) P w K mg base N qual scope f cdv cc A outer s H E) (st :: rest) st u ∧ PDSs (cxS (L2.CX P w) P w K mg base N qual scope f cdv cc A outer s H E) rest v) :
    FnD P w K mg base (k + 1) f fd ps (dFn N.length (dSeq u v)) := by
  obtain ⟨oc, od, dV, kV, doc, pm, an, cda, ct, osl, rfl, lk, hcd, _, hcode⟩ := F.ex
  refine ⟨fun vs H Q E h => h.1, fun A outer s H args us vs Q E hr e0 hb r hsp => ?_⟩
  have hl := hsp.1
  have KX : K.In s.heap := e0.mod.kin.keeps fun b o e => (e0.bs b o e).1
  have lim : s.heap.NoLimit := e0.mod.nolimit.keeps fun b o e => (e0.bs b o e).1
  refine ks_codeAny_call_defAt (fd := PySem.W.fnX x qual params (st :: rest) scope [("__class__", cc)] dV kV doc pm an (.ref cda) ct) (body := st :: rest) (binds := ps.zip us) hr.depth (KX _ _ lk) rfl lim (PySem.W.codeRec_of KX hcd) rfl hb S.nocell (fun y hy => S.par y.1 (List.of_mem_zip (show (y.1, y.2) ∈ ps.zip us from hy)).1) (fun h₁ hns hk₁ => ?_) S.co S.gen S.kind
  show PySem.wpAt _ (A.deeper (PySem.W.ksEnv qual scope s.heap.objs.size f (.ref cda) cc)) (.func (st :: rest) (PySem.W.ksEnv qual scope s.heap.objs.size f (.ref cda) cc)) (execs (st :: rest) (PySem.W.ksEnv qual scope s.heap.objs.size f (.ref cda) cc)) _ _ _
  obtain ⟨h1, h2⟩ := h (.ref cda) A outer s H E ⟨cda, rfl, hcode⟩ (hr.deeper _)
  obtain ⟨_, T, m, ds, rfl, sa, rd, p⟩ := hsp
  have I : Inv (cxS (L2.CX P w) P w K mg base N qual scope f (.ref cda) cc A outer s T.H E) [] (L2.start N vs) T.H { s with heap := h₁, toks := s.toks + (ps.zip us).length } := inv_startS S hr.hd e0 hl r F.cell hns hk₁
  have tk : Takes (cxS (L2.CX P w) P w K mg base N qual scope f (.ref cda) cc A outer s T.H E) (fun cls d _ H => E cls d H) := takes_of rfl rfl rfl rfl
  have fin : ∀ {σ' : L2.St} {H' : Hp} {v : V} {u : Value} {s' : Shared}, Inv (cxS (L2.CX P w) P w K mg base N qual scope f (.ref cda) cc A outer s T.H E) [] σ' H' s' → RelV v u → Q v H' → CE outer P w T.H s Q u s' :=
    fun {σ' H' v u s'} J rv q => ⟨v, H', J.os, J.bare, J.base, J.hok, rv, q⟩
  let ND : Ends := { nx := fun _ H' => Q .non H', rt := Q }
  have pS : PostS K T (dSeq u v (env0 N.length ds) m) ND (Fly (cxS (L2.CX P w) P w K mg base N qual scope f (.ref cda) cc A outer s T.H E)) := by
    unfold dFn at p
    cases q : dSeq u v (env0 N.length ds) m with
    | stuck => rw [q] at p; exact p.elim
    | nx e m1 => rw [q] at p; exact fun σ U st sa1 re => p .non U st sa1 .non
    | rt d m1 => rw [q] at p; exact fun v U st sa1 r1 => p v U st sa1 r1
    | bk e m1 => rw [q] at p; exact p.elim
    | ct e m1 => rw [q] at p; exact p.elim
    | exc C fs e m1 => rw [q] at p; exact fun dd vs σ U st hn sa1 re h1 h2 => Fly.of tk (p dd vs U st hn sa1 h1 h2)
  have endF : ∀ (fl : Flow) (s' : Shared), SP (cxS (L2.CX P w) P w K mg base N qual scope f (.ref cda) cc A outer s T.H E) [] ND fl s' → CR (L2.CX P w) outer P w T.H s Q E (.ok (.ret (match fl with | .ret v => v | _ => .none))) s' := fun fl s' hs => by
    cases fl with
    | ret u =>
      obtain ⟨v, σ', H', J, rv, q⟩ := hs
      exact fin J rv q
    | next =>
      obtain ⟨σ', H', J, q⟩ := hs
      exact fin (v := V.non) (u := Value.none) J rfl q
    | brk =>
      obtain ⟨_, _, _, q⟩ := hs
      exact False.elim q
    | cont =>
      obtain ⟨_, _, _, q⟩ := hs
      exact False.elim q
  let N1 : Ends := { ND with nx := fun σ1 H1 => ∃ e1 m1 T1, H1 = T1.H ∧ Stp T T1 ∧ Sta K T1 m1 ∧ RelE K T1 e1 σ1 ∧ PostS K T1 (v e1 m1) ND (Fly (cxS (L2.CX P w) P w K mg base N qual scope f (.ref cda) cc A outer s T.H E)) }
  have p1 : PostS K T (u (env0 N.length ds) m) N1 (Fly (cxS (L2.CX P w) P w K mg base N qual scope f (.ref cda) cc A outer s T.H E)) := by
    unfold dSeq at pS
    cases q : u (env0 N.length ds) m with
    | nx e1 m1 =>
      rw [q] at pS
      exact fun σ1 T1 st1 sa1 re1 => ⟨e1, m1, T1, rfl, st1, sa1, re1, PostS.step st1 pS⟩
    | stuck => rw [q] at pS; exact pS
    | rt d m1 => rw [q] at pS; exact pS
    | bk e1 m1 => rw [q] at pS; exact pS
    | ct e1 m1 => rw [q] at pS; exact pS
    | exc C fs e1 m1 => rw [q] at pS; exact pS
  refine ks_wpAt_execs_cons (ks_wpAt_mono (h1 T (env0 N.length ds) m (L2.start N vs) N1 sa (relE_start rd) p1 [] _ I) (fun fl s' hs => ?_) fun e s' hs => hs)
  cases fl with
  | next =>
    obtain ⟨σ', H', J, e1, m1, T1, rfl, st1, sa1, re1, q⟩ := hs
    exact wpAt_of_wpAny (wpAny_mono (h2 T1 e1 m1 σ' ND sa1 re1 q [] s' J) (fun fl s'' hs => endF fl s'' hs) fun e s'' hs => hs)
  | ret u' => exact endF (.ret u') s' hs
  | brk => exact endF .brk s' hs
  | cont => exact endF .cont s' hs
end
end DL

set_option maxHeartbeats 4000000
/-! raise C(..), C an own exception class. -/
namespace DL
open PySem PySem.Spec PyProof.Rows L2
variable [LamTab]
open PySem.W (excTail_contains)
section
variable {K : PySem.W.Frag} {T Z : Wd}
mutual
theorem Rep.low {i l : List Addr} {F : Hp} (hl : l <+: i) : ∀ {d : D} {v : V}, Rep K i F d v → below l.length d = true → Rep K l F d v
  | _, _, .non, _ => .non
  | _, _, .bl b, _ => .bl b
  | _, _, .int i, _ => .int i
  | _, _, .str x, _ => .str x
  | _, _, .tup h r, hb => .tup h (Reps.low hl r (by unfold below at hb; exact hb))
  | _, _, .lst h r, hb => .lst h (Reps.low hl r (by unfold below at hb; exact hb))
  | _, _, .obj h n r, hb => .obj h n (Reps.low hl r (by unfold below at hb; exact hb))
  | _, _, .loc (n := k) h, hb => .loc (by
      unfold below at hb
      have hk : k < l.length := of_decide_eq_true hb
      obtain ⟨t, e⟩ := hl
      rw [← e, List.getElem?_append_left hk] at h
      exact h)
  | _, _, .val v, _ => .val v
  | _, _, .xob h n r, hb => by simp [below] at hb
  | _, _, .lam h, hb => by simp [below] at hb
  | _, _, .clo h h2 r, hb => by simp [below] at hb
theorem Reps.low {i l : List Addr} {F : Hp} (hl : l <+: i) : ∀ {d : List D} {v : List V}, Reps K i F d v → belows l.length d = true → Reps K l F d v
  | _, _, .nil, _ => .nil
  | _, _, .cons h r, hb => by
    unfold belows at hb
    obtain ⟨h1, h2⟩ := Bool.and_eq_true_iff.mp hb
    exact .cons (Rep.low hl h h1) (Reps.low hl r h2)
end
/-- what was laid since T is let go; H': the heap, elsewhere as it was -/
theorem drop_ok {m m2 : Mu} {H' : Hp} (saT : Sta K T m) (st : Stp T Z) (sa : Sta K Z m2) (hm : m2.take m.length = m) (hb : Cl m) (hH : ∀ b, b ∉ Z.i ∨ b ∈ T.i → H' b = Z.H b) (ho : ∀ b, H' b = none → T.H b = none) : Stp T ⟨T.i, Z.F, H'⟩ ∧ Sta K ⟨T.i, Z.F, H'⟩ m := by
  have hpre := st.pre
  have sub : ∀ a, a ∈ T.i → a ∈ Z.i := fun a h => hpre.subset h
  have hF : ∀ a o, Z.F a = some o → a ∉ Z.i := fun a o e hz => by rw [sa.dis a hz] at e; cases e
  refine ⟨⟨List.prefix_refl _, st.ext, fun a o hn h1 h2 h3 => ?_, ho⟩, saT.nd, saT.len, fun a o e => ?_, fun a ha => sa.dis a (sub a ha), fun a ha => ?_, fun n a o h1 h2 => ?_, fun q hq => ?_⟩
  · obtain ⟨k1, k2, k3⟩ := st.frame a o hn h1 h2 h3
    exact ⟨(hH a (.inl k3)).trans k1, k2, h3⟩
  · have e : Z.F a = some o := e
    exact (hH a (.inl (hF a o e))).trans (sa.sub a o e)
  · obtain ⟨o, e⟩ := sa.tr a (sub a ha)
    exact ⟨o, (hH a (.inr ha)).trans e⟩
  · have h1 : T.i[n]? = some a := h1
    have h1' := pre_get hpre h1
    have hn : n < m.length := by rw [← saT.len]; exact (List.getElem?_eq_some_iff.mp h1).1
    have h2' : m2[n]? = some o := by
      rw [← hm, List.getElem?_take_of_lt hn] at h2; exact h2
    have hbo := hb o (List.mem_of_getElem? h2)
    rw [← saT.len] at hbo
    have q := sa.ok n a o h1' h2'
    have eH : H' a = Z.H a := hH a (.inr (List.mem_of_getElem? h1))
    cases o with
    | lst ds => obtain ⟨xs, q1, q2⟩ := q; exact ⟨xs, eH.trans q1, q2.low hpre hbo⟩
    | ins C fs => obtain ⟨dx, vs, q1, q2⟩ := q; exact ⟨dx, vs, eH.trans q1, RepF.join q2.split.1 (q2.split.2.low hpre hbo)⟩
    | exo C d =>
      cases d with
      | none => exact (show H' a = _ from eH.trans q)
      | some k =>
        obtain ⟨dx, q1, q2⟩ := q
        have hk : k < T.i.length := of_decide_eq_true hbo
        refine ⟨dx, ?_, eH.trans q2⟩
        obtain ⟨t, ht⟩ := hpre
        have q1' := q1
        rw [← ht, List.getElem?_append_left hk] at q1'
        exact q1'
    | exd fs => obtain ⟨vs, q1, q2⟩ := q; exact ⟨vs, eH.trans q1, RepF.join q2.split.1 (q2.split.2.low hpre hbo)⟩
    | dik kvs => obtain ⟨vs, q1, q0, q2⟩ := q; exact ⟨vs, eH.trans q1, q0, q2.low hpre hbo⟩
    | dit kvs => obtain ⟨vs, q1, q0, q2⟩ := q; exact ⟨vs, eH.trans q1, q0, q2.low hpre hbo⟩
  · obtain ⟨ps, t1, t2, t3, t4, t5⟩ := sa.tb q hq
    exact ⟨ps, (hH q.1 (.inl t3)).trans t1, t2, fun z => t3 (sub _ z), t4, t5⟩
end
/-! ### the exception made -/
structure XT (P : Program) (w : World) (K : PySem.W.Frag) (mg : Str → Option Value) (base : Heap) (k : Nat) (x : Str) (C : Addr) (G : DFn) : Prop where
  mgx : mg x = some (.ref C)
  oex : OexG K C
  ex : ∃ (f : Addr) (fd : FuncData) (ps : List Str) (dds : List D) (G0 : DFn), PySem.W.findIn K (.ref C) "__init__" = some (some (.ref f)) ∧ PySem.W.typeIn K (.ref f) = some (.type "function") ∧ FnD P w K mg base k f fd ps G0 ∧ Bd K fd ps dds ∧ G = padF ps.length dds G0
open Classical in
noncomputable def mkExc (C : Addr) (m : Mu) (e : En) (r : Res D) : RS := match r with
  | .ok .non m2 => match m2[m.length]? with
    | some (.exo C' (some k)) => match m2[k]? with
      | some (.exd fs) => if C' = C ∧ m.length ≤ k ∧ m2.take m.length = m ∧ Cl m ∧ belows m.length (fs.map (·.2)) = true then .exc C fs e m else .stuck
      | _ => .stuck
    | _ => .stuck
  | .exc C' fs m2 => .exc C' fs e m2
  | _ => .stuck
noncomputable def dRaise (C : Addr) (G : DFn) (t : DA) : DS := fun e m => match t e m with
  | .stuck => .stuck
  | .exc C' fs m1 => .exc C' fs e m1
  | .ok ds m1 => if ds.length ≤ 1000 then mkExc C m1 e (G (.loc m1.length :: ds) (m1 ++ [.exo C none])) else .stuck
@[simp ↓] theorem dRaise_ap (C : Addr) (G : DFn) (t : DA) (e : En) (m : Mu) : dRaise C G t e m = match t e m with
  | .stuck => .stuck
  | .exc C' fs m1 => .exc C' fs e m1
  | .ok ds m1 => if ds.length ≤ 1000 then mkExc C m1 e (G (.loc m1.length :: ds) (m1 ++ [.exo C none])) else .stuck := rfl
section
variable {X : Cx} {e o : Expr} {es : List Expr} {t : DA} {pos p : Pos} {x : Str} {k : Nat} {C : Addr} {G : DFn}
theorem exd_tblne {dx : Addr} {fs : List (Str × V)} (ps : Array Value) : exd dx fs ≠ .tbl ps := fun z => by
  unfold exd at z
  cases z
theorem run_exc {pins : List (Addr × Obj)} {σ : L2.St} {T : Wd} {m : Mu} {r0 : En} {s : Shared} {us : List Value} {vs : List V} {das : List D} {N : Ends} (F : XT X.prog X.w X.K X.mg X.base k x C G) (hr : Room (k + 1) X.A)
    (I : Inv X pins σ T.H s) (sa : Sta X.K T m) (re : RelE X.K T r0 σ) (r : Reps X.K T.i T.F das vs) (rv : Vals vs us) (hz : das.length ≤ 1000) (h : PostS X.K T (mkExc C m r0 (G (.loc m.length :: das) (m ++ [.exo C none]))) N (Fly X)) :
    wpAny (model X.prog X.w) X.A (call (.ref C) us) (MkP X pins σ fun cls d H' => Fly X cls d σ H') X.xe s := by
  obtain ⟨f, fd, ps, dds, G0, iC, tI, hf, hb, rfl⟩ := F.ex
  obtain ⟨dsv, dvs, hb1, hd1, hD⟩ := hb.ex
  obtain ⟨B, newId, initId, tl, nm, Nn, q, bs, bm, sn, sub, ab, col, dd, k0, k1, k2, k3, k5, xb, hC, hbm⟩ := F.oex.cls
  unfold padF at h
  have hcons : D.loc m.length :: das ++ dds = D.loc m.length :: (das ++ dds) := rfl
  rw [hcons] at h
  split at h
  · rename_i hl
    obtain ⟨hp, g, dr, tk, os⟩ := s
    have hsz : hp.objs.size ≤ hp.objs.size + 1 := Nat.le_succ _
    have hn : T.H (hp.objs.size + 1) = none := I.hok.fresh hsz
    have kk : ∀ b o, hp.get? b = some o → ((hp.push (PySem.W.kdv_tup us)).push (PySem.HandSPX.excO C hp.objs.size)).get? b = some o := fun b o e => Heap.get?_push_of_some _ (Heap.get?_push_of_some _ e)
    have hget : ((hp.push (PySem.W.kdv_tup us)).push (PySem.HandSPX.excO C hp.objs.size)).get? (hp.objs.size + 1) = some (PySem.HandSPX.excO C hp.objs.size) := by heap_get
    have I2 : Inv X pins σ (upd T.H (hp.objs.size + 1) (exo (hp.objs.size + 1) C none)) ⟨(hp.push (PySem.W.kdv_tup us)).push (PySem.HandSPX.excO C hp.objs.size), g, dr, tk, os⟩ :=
      I.laid (t' := tk) (a := hp.objs.size + 1) (o := exo (hp.objs.size + 1) C none) (h' := (hp.push (PySem.W.kdv_tup us)).push (PySem.HandSPX.excO C hp.objs.size)) kk hsz (exo_ok hget)
    have st2 := Stp.tok sa (o := exo (hp.objs.size + 1) C none) hn
    have sa2 := sa.tok (o := exo (hp.objs.size + 1) C none) hn (q := .exo C none) upd_same
    have hloc : (T.tok (hp.objs.size + 1) (exo (hp.objs.size + 1) C none)).i[m.length]? = some (hp.objs.size + 1) := by
      show (T.i ++ [hp.objs.size + 1])[m.length]? = _
      rw [← sa.len, List.getElem?_append_right (Nat.le_refl _), Nat.sub_self]; rfl
    have r1 : Reps X.K (T.tok (hp.objs.size + 1) (exo (hp.objs.size + 1) C none)).i (T.tok (hp.objs.size + 1) (exo (hp.objs.size + 1) C none)).F (.loc m.length :: (das ++ dds)) (V.ref (hp.objs.size + 1) :: (vs ++ dvs)) := .cons (.loc hloc) ((r.stp st2).append (hD _ _))
    have r2 : Vals (V.ref (hp.objs.size + 1) :: (vs ++ dvs)) (Value.ref (hp.objs.size + 1) :: (us ++ dsv)) := .cons rfl (rv.append hd1)
    have hlv : (V.ref (hp.objs.size + 1) :: (vs ++ dvs)).length = ps.length := by rw [← r1.len]; exact hl
    have hl2 : (Value.ref (hp.objs.size + 1) :: us ++ dsv).length = ps.length := by
      have e := r2.length
      rw [hlv] at e
      exact e.symm
    by_cases hus : us.length ≤ sizeLine
    · generalize hT2 : T.tok (hp.objs.size + 1) (exo (hp.objs.size + 1) C none) = T2 at st2 sa2 hloc r1
      have hH2 : T2.H = upd T.H (hp.objs.size + 1) (exo (hp.objs.size + 1) C none) := by rw [← hT2]; rfl
      rw [← hH2] at I2
      have hsp : spD X.K ps.length G0 (V.ref (hp.objs.size + 1) :: (vs ++ dvs)) T2.H (fun v H2 => v = .non ∧ ∃ (d : Addr) (fs : List (Str × V)), H2 (hp.objs.size + 1) = some (exo (hp.objs.size + 1) C (some d)) ∧ H2 d = some (exd d fs) ∧ (T.H d = none ∨ ∃ ps, T.H d = some (.tbl ps)) ∧ (T.H d = none → Fly X (.ref C) (some d) σ (upd (L2.del H2 (hp.objs.size + 1)) d (.xd fs)))) (fun c d H => Fly X c d σ H) := by
        refine ⟨hlv, T2, m ++ [.exo C none], _, rfl, sa2, r1, ?_⟩
        cases hG : G0 (D.loc m.length :: (das ++ dds)) (m ++ [.exo C none]) with
        | stuck => rw [hG] at h; exact (show False from h).elim
        | exc C' fs m2 =>
          rw [hG] at h
          exact fun dd vs' Z stZ hn saZ h1 h2 => h dd vs' σ Z (st2.trans stZ) (st2.old dd hn) saZ (re.stp (st2.trans stZ)) h1 h2
        | ok dv m2 =>
          rw [hG] at h
          intro v Z stZ saZ rdv
          unfold mkExc at h
          split at h
          · rename_i heq
            cases heq
            cases rdv
            refine ⟨rfl, ?_⟩
            split at h
            · rename_i C' kx e1
              split at h
              · rename_i fs e2
                split at h
                · rename_i hc
                  obtain ⟨rfl, hkx, htake, hcl, hbel⟩ := hc
                  have hzi := pre_get stZ.pre hloc
                  obtain ⟨dx, hkz, q1⟩ := saZ.ok _ _ _ hzi e1
                  obtain ⟨vv, q2, q3⟩ := saZ.ok _ _ _ hkz e2
                  have stTZ := st2.trans stZ
                  have notT : ∀ {n : Nat} {b : Addr}, m.length ≤ n → Z.i[n]? = some b → b ∉ T.i := fun {n b} hn hb z => by
                    obtain ⟨j, hj⟩ := List.getElem?_of_mem z
                    have hj' := pre_get stTZ.pre hj
                    obtain ⟨l1, e1⟩ := List.getElem?_eq_some_iff.mp hj'
                    obtain ⟨l2, e2⟩ := List.getElem?_eq_some_iff.mp hb
                    have := (List.getElem_inj saZ.nd).mp (e1.trans e2.symm)
                    have := (List.getElem?_eq_some_iff.mp hj).1
                    rw [sa.len] at this
                    omega
                  have nT1 := notT (Nat.le_refl _) hzi
                  have nT2 := notT hkx hkz
                  have mZ1 := List.mem_of_getElem? hzi
                  have mZ2 := List.mem_of_getElem? hkz
                  refine ⟨dx, vv, q1, q2, ?_, ?_⟩
                  · cases eT : T.H dx with
                    | none => exact .inl rfl
                    | some o =>
                      by_cases ht : ∃ ps, o = .tbl ps
                      · obtain ⟨ps', rfl⟩ := ht
                        exact .inr ⟨ps', rfl⟩
                      · have hno : ∀ ps, o ≠ .tbl ps := fun ps z => ht ⟨ps, z⟩
                        cases eF : T.F dx with
                        | some o' =>
                          have := saZ.dis dx mZ2
                          rw [stTZ.ext _ _ eF] at this
                          cases this
                        | none => exact absurd mZ2 (stTZ.frame dx o hno eT eF nT2).2.2
                  · have hH : ∀ b, b ∉ Z.i ∨ b ∈ T.i → upd (L2.del Z.H (hp.objs.size + 1)) dx (.xd vv) b = Z.H b := fun b hb => by
                      have n1 : b ≠ dx := fun z => by
                        subst z
                        exact hb.elim (fun z => z mZ2) nT2
                      have n2 : b ≠ hp.objs.size + 1 := fun z => by
                        rw [z] at hb
                        exact hb.elim (fun z => z mZ1) nT1
                      rw [upd_ne n1, L2.del_ne n2]
                    obtain ⟨c1, c2⟩ := drop_ok sa stTZ saZ htake hcl hH (fun b hb => by
                      have hb := upd_none hb
                      by_cases e : b = hp.objs.size + 1
                      · rw [e]; exact hn
                      · rw [L2.del_ne e] at hb; exact stTZ.old b hb)
                    intro hdT
                    have hbel' : belows T.i.length (fs.map (·.2)) = true := by rw [sa.len]; exact hbel
                    exact h dx vv σ ⟨T.i, Z.F, upd (L2.del Z.H (hp.objs.size + 1)) dx (.xd vv)⟩ c1 hdT c2 (re.stp c1) upd_same (RepF.join q3.split.1 (q3.split.2.low stTZ.pre hbel'))
                · exact h.elim
              · exact h.elim
            · exact h.elim
          · rename_i heq; cases heq
          · exact h.elim
      refine wpAny_call (PySem.HandSPX.call_own xb.F (fun Y => excTail_contains Y bm hbm) (I.kIn _ _ hC) (PySem.W.looks_findIn I.kIn iC) (fun self => PySem.W.bind_fn I.kIn self tI) hus
        (codeAny_mono (hf.run _ X.stack _ _ ⟨Value.ref (hp.objs.size + 1) :: us, []⟩ (Value.ref (hp.objs.size + 1) :: (us ++ dsv)) _ _ (fun c d H => Fly X c d σ H) (hr.make C us []) (I2.env0.make C us []) (hb1 _ (Value.ref (hp.objs.size + 1) :: us) I2.kIn hl2) r2 hsp) fun rr s' hq' => ?_))
      cases rr with
      | error er =>
        obtain ⟨a, B, sI, pins', σ', H', cls, d, e1, I', nb, up, sky, na, os, ag, e2, fl⟩ := XE.of_call I2 (W := fun c d σ' H => σ' = σ ∧ Fly X c d σ H) (fun cls d H' h => ⟨rfl, h⟩) hq'
        exact fl er s' ⟨a, B, sI, pins', σ', H', cls, d, e1, I', nb, up, sky, na, os, ag, rfl, rfl, e2, rfl⟩
      | ok fl =>
        cases fl with
        | ret u =>
          obtain ⟨v, H2, os2, bare2, un2, hok2, rv2, ev, d, fs, ea, ed, hd1, q2⟩ := hq'
          subst ev
          obtain ⟨h2, g2, d2, t2, os'⟩ := s'
          have nda : d ≠ hp.objs.size + 1 := fun z => by
            obtain ⟨t1, z1⟩ := exo_at hok2 ea
            obtain ⟨mA, ⟨o, es, ep, z2, z3, _⟩, _⟩ := exd_at hok2 ed
            rw [z, z1] at z2
            cases z2
            cases z3
          have hdn : T.H d = none := by
            rcases hd1 with z | ⟨ps', z⟩
            · exact z
            · have : T2.H d = some (.tbl ps') := by rw [hH2, upd_ne nda]; exact z
              obtain ⟨more, y⟩ := un2.tbls d ps' this
              rw [ed] at y
              exact absurd (Option.some.inj y) (exd_tblne _)
          rw [hH2] at un2
          exact ⟨rv2, mk_end (raises_own F.oex.exC F.oex.tyC) I hsz kk un2 hok2 os2 bare2 ea ed hdn (q2 hdn)⟩
        | next => exact False.elim hq'
        | brk => exact False.elim hq'
        | cont => exact False.elim hq'
    · exfalso
      exact hus (by rw [← rv.length, ← r.len, sizeLine_eq]; omega)
  · exact (show False from h).elim
/-- any making of an exception -/
def WMk (X : Cx) (e : Expr) : L2.St → Hp → XK → Prop := fun σ H Q => ∀ (pins : List (Addr × Obj)) (s : Shared), Inv X pins σ H s → wpAny (model X.prog X.w) X.A (eval e X.env) (MkP X pins σ Q) X.xe s
theorem mxMk (X : Cx) (e : Expr) : PMk X e (WMk X e) := fun pins s σ H Q I h => h pins s I
theorem pds_raise {rpos : Pos} (F : XT X.prog X.w X.K X.mg X.base k x C G) (hr : Room (k + 1) X.A) (hc : X.calm = true) (ha : PDA X (e :: es) t)
    (hg : Gl X x := by rfl) (hdb : (x == ("__debug__" : Str)) = false := by decide) (he : starEach (e :: es) X.env = (false, eval e X.env) :: starEach es X.env := by exact se_cons _ _ _ rfl) (hpl : (backTo pos (starEach es X.env)).any (·.1) = false := by exact se_any _ _ _ rfl) :
    PDS X (.Raise (some (.Call (.Name x p) (e :: es) [] pos)) none rpos) (dRaise C G t) := by
  refine ps_of (ps_raise hc (takesFly X) (mxMk X _)) fun S r m σ N sa re p pins s I => ?_
  refine wpAny_Call_Name_kw (ld_glob I hg F.mgx ?_ hdb)
  have p1 : PostL X.K S (t r m) (fun xs H => ∃ ds m1 T, H = T.H ∧ Stp S T ∧ Sta X.K T m1 ∧ Reps X.K T.i T.F ds xs ∧ PostS X.K T (if ds.length ≤ 1000 then mkExc C m1 r (G (.loc m1.length :: ds) (m1 ++ [.exo C none])) else .stuck) N (Fly X)) (fun c d H => Fly X c d σ H) := by
    unfold dRaise at p
    cases q : t r m with
    | stuck => rw [q] at p; exact p
    | exc C' fs m1 => rw [q] at p; exact fun dd vs T st hn sa h1 h2 => p dd vs σ T st hn sa (re.stp st) h1 h2
    | ok ds m1 => rw [q] at p; exact fun xs T st sa rd => ⟨ds, m1, T, rfl, st, sa, rd, PostS.step st p⟩
  refine PySem.W.callWith_K (h₀ := X.base) I.ok.mod.kin F.oex.kC (thn (ha S r m σ _ sa re p1 pos pins s I) ?_) he hpl
  rintro us s1 ⟨xs, H1, I1, rv, ds, m1, T, rfl, st, sa1, rds, q1⟩
  refine ⟨I1.kIn, ?_⟩
  split at q1
  · rename_i hz
    exact run_exc F hr I1 sa1 (re.stp st) rds rv hz q1
  · exact q1.elim
theorem pds_raise0 {rpos : Pos} (F : XT X.prog X.w X.K X.mg X.base k x C G) (hr : Room (k + 1) X.A) (hc : X.calm = true)
    (hg : Gl X x := by rfl) (hdb : (x == ("__debug__" : Str)) = false := by decide) :
    PDS X (.Raise (some (.Call (.Name x p) [] [] pos)) none rpos) (dRaise C G dNil) := by
  refine ps_of (ps_raise hc (takesFly X) (mxMk X _)) fun S r m σ N sa re q pins s I => ?_
  refine wpAny_Call_Name_kw (ld_glob I hg F.mgx ?_ hdb)
  exact PySem.W.callWith_K0 I.kIn F.oex.kC (run_exc F hr I sa re .nil .nil (Nat.zero_le _) q)
end
end DL

set_option maxHeartbeats 4000000
/-! try: .. except: ..; a caught exception as a value while its suite runs; defs called there. -/
namespace DL
open PySem PySem.Spec PyProof.Rows L2
variable [LamTab]
section
variable {X : Cx} {pins : List (Addr × Obj)} {σ : L2.St} {H : Hp} {s : Shared}
/-- a new object, not tracked so far, is tracked as it is -/
theorem _root_.L2.Inv.track {a : Addr} {o : Obj} (I : Inv X pins σ H s) (e : s.heap.get? a = some o) (hn : H a = none) (n0 : X.s_0.heap.get? a = none) (nL : a ≠ X.env.locals) (nC : ∀ y c, X.env.cells.lookup y = some c → c ≠ a) (np : ∀ p ∈ X.pn ++ pins, p.1 ≠ a) : Inv X pins σ (upd H a (pinO a o)) s := by
  have ne0 : ∀ b u, X.s_0.heap.get? b = some u → b ≠ a := fun b u q z => by rw [z, n0] at q; cases q
  refine ⟨I.ok, I.os, I.bare, ⟨I.base.keep, I.base.slot, fun b u q n hx => ?_, I.base.there, fun b xs q => ?_, fun b u v q => ?_, fun b ps q => ?_⟩, I.loc, I.cell, ?_, fun y c q => ?_, fun p hp => ?_, ?_, I.len⟩
  · rw [upd_ne (ne0 b u q)]; exact I.base.free b u q n hx
  · have z := I.base.tups b xs q; rw [upd_ne (ne_of_none z hn)]; exact z
  · have z := I.base.frzs b u v q; rw [upd_ne (ne_of_none z hn)]; exact z
  · obtain ⟨m, z⟩ := I.base.tbls b ps q; exact ⟨m, by rw [upd_ne (ne_of_none z hn)]; exact z⟩
  · rw [upd_ne (Ne.symm nL)]; exact I.free
  · rw [upd_ne (nC y c q)]; exact I.freeC y c q
  · obtain ⟨p1, p2, p3⟩ := I.pin p hp
    exact ⟨p1, by rw [upd_ne (np p hp)]; exact p2, p3⟩
  · exact I.hok.laidN (fun _ _ q => q) hn (pinO_ok e)
theorem _root_.L2.Inv.suiteQ (I : Inv X pins σ H s) (a : Addr) : Inv (X.suite a (X.pn ++ pins)) [] σ H s :=
  ⟨I.ok.suite _ _, I.os, I.bare, I.base, I.loc, I.cell, I.free, I.freeC, fun p hp => I.pin p (by rw [List.append_nil] at hp; exact hp), I.hok, I.len⟩
theorem _root_.L2.Inv.unsuiteQ {a : Addr} {pn' : List (Addr × Obj)} (I : Inv (X.suite a (X.pn ++ pins)) pn' σ H s) (ok : X.Ok) : Inv X pins σ H s :=
  ⟨ok, I.os, I.bare, I.base, I.loc, I.cell, I.free, I.freeC, fun p hp => I.pin p (List.mem_append_left _ hp), I.hok, I.len⟩
theorem flyingZ_keeps {B h h' : Heap} {l : List Env} {e : Addr} {Z : Obj → Prop} (R : PySem.HandSPX.FlyingZ B l e Z h) (k : ∀ b o, h.get? b = some o → h'.get? b = some o) : PySem.HandSPX.FlyingZ B l e Z h' := by
  obtain ⟨f1, f2, f3, oe, vs, T, oT, ts, he, hz, hd, h1, hn, hne, hT, hdT, h3⟩ := R
  exact ⟨fun b o q => k b o (f1 b o q), f2, f3.of_keeps fun b o q _ => ⟨o, k b o q, rfl⟩, oe, vs, T, oT, ts, k _ _ he, hz, hd, h1, hn, hne, k _ _ hT, hdT, h3⟩
end
/-! ### the test of a clause -/
/-- it says yes for the classes cs -/
def TestOk (X : Cx) (t : Expr) (cs : List Addr) : Prop := ∀ (a : Addr) (pn pins : List (Addr × Obj)) (σ : L2.St) (H : Hp) (s : Shared) (C : Addr) (Q : Bool → Shared → Prop) (E E' : Value → Shared → Prop), C ∈ cs → Inv (X.suite a pn) pins σ H s → PySem.W.Looks (model X.prog X.w) s.heap (typeOf (.ref a)) (.ref C) →
  (∀ h', (∀ b o, s.heap.get? b = some o → h'.get? b = some o) → Q true { s with heap := h' }) → wpAny (model X.prog X.w) (X.A.mark (some (.ref a))) (eval t X.env) (fun c s1 => wpAny (model X.prog X.w) (X.A.mark (some (.ref a))) (excMatches (.ref a) c) Q E s1) E' s
section
variable {X : Cx} {x y z : Str} {c c2 c3 : Addr} {cs : List Addr} {p p2 p3 tp : Pos} {kk : Nat}
theorem test_one (hm : X.mg x = some (.ref c)) (h : ∀ C ∈ cs, PySem.W.exmOne X.K (.ref C) (.ref c) = some true) (hg : Gl X x := by rfl) (hd : (x == ("__debug__" : Str)) = false := by decide) : TestOk X (.Name x p) cs := by
  intro a pn pins σ H s C Q E E' hC I LT q
  exact ld_glob (X := X.suite a pn) I hg hm ((PySem.W.exm_one I.kIn LT (h C hC)).here (q s.heap fun _ _ z => z)) hd
theorem test_three (hm : X.mg x = some (.ref c)) (hm2 : X.mg y = some (.ref c2)) (hm3 : X.mg z = some (.ref c3)) (h : ∀ C ∈ cs, PySem.W.exmAny X.K (.ref C) [.ref c, .ref c2, .ref c3] = some true)
    (hg : Gl X x := by rfl) (hg2 : Gl X y := by rfl) (hg3 : Gl X z := by rfl) (hd : (x == ("__debug__" : Str)) = false := by decide) (hd2 : (y == ("__debug__" : Str)) = false := by decide) (hd3 : (z == ("__debug__" : Str)) = false := by decide) :
    TestOk X (.Tuple [.Name x p, .Name y p2, .Name z p3] kk tp) cs := by
  intro a pn pins σ H s C Q E E' hC I LT q
  refine wpAny_Tuple ?_
  refine wpAny_items_cons (ld_glob (X := X.suite a pn) I hg hm ?_ hd)
  refine wpAny_items_cons (ld_glob (X := X.suite a pn) I hg2 hm2 ?_ hd2)
  refine wpAny_items_cons (ld_glob (X := X.suite a pn) I hg3 hm3 ?_ hd3)
  refine wpAny_items_nil ⟨by show 3 ≤ sizeLine; rw [sizeLine_eq]; omega, ?_⟩
  have kp : ∀ q o, s.heap.get? q = some o → (s.heap.push { cls := .type "tuple", data := .seq [Value.ref c, .ref c2, .ref c3].toArray }).get? q = some o := fun _ _ z => Heap.get?_push_of_some _ z
  exact (PySem.W.exm_tup3 (I.kIn.keeps kp) (LT.keeps kp) (Heap.get?_push_size s.heap rfl) (h C hC)).here (q _ kp)
end
/-! ### try -/
/-- try: body, except .. as (slot i): suite; cs: the classes that it catches -/
def dTryAs (cs : List Addr) (i : Nat) (body suite : DS) : DS := fun e m => match body e m with
  | .exc C fs e1 m1 => if C ∈ cs then match suite (e1.set i (some (.xob ⟨C, fs.map (·.1)⟩ (fs.map (·.2))))) m1 with
      | .nx e2 m2 => .nx (e2.set i none) m2
      | .rt d m2 => .rt d m2
      | _ => .stuck
    else .stuck
  | .stuck => .stuck
  | .nx e1 m1 => .nx e1 m1
  | .rt d m1 => .rt d m1
  | .bk e1 m1 => .bk e1 m1
  | .ct e1 m1 => .ct e1 m1
/-- the same without a name -/
def dTry (cs : List Addr) (body suite : DS) : DS := fun e m => match body e m with
  | .exc C fs e1 m1 => if C ∈ cs then match suite e1 m1 with
      | .nx e2 m2 => .nx e2 m2
      | .rt d m2 => .rt d m2
      | _ => .stuck
    else .stuck
  | .stuck => .stuck
  | .nx e1 m1 => .nx e1 m1
  | .rt d m1 => .rt d m1
  | .bk e1 m1 => .bk e1 m1
  | .ct e1 m1 => .ct e1 m1
@[simp ↓] theorem dTryAs_ap (cs : List Addr) (i : Nat) (body suite : DS) (e : En) (m : Mu) : dTryAs cs i body suite e m = match body e m with
  | .exc C fs e1 m1 => if C ∈ cs then match suite (e1.set i (some (.xob ⟨C, fs.map (·.1)⟩ (fs.map (·.2))))) m1 with
      | .nx e2 m2 => .nx (e2.set i none) m2
      | .rt d m2 => .rt d m2
      | _ => .stuck
    else .stuck
  | .stuck => .stuck
  | .nx e1 m1 => .nx e1 m1
  | .rt d m1 => .rt d m1
  | .bk e1 m1 => .bk e1 m1
  | .ct e1 m1 => .ct e1 m1 := rfl
@[simp ↓] theorem dTry_ap (cs : List Addr) (body suite : DS) (e : En) (m : Mu) : dTry cs body suite e m = match body e m with
  | .exc C fs e1 m1 => if C ∈ cs then match suite e1 m1 with
      | .nx e2 m2 => .nx e2 m2
      | .rt d m2 => .rt d m2
      | _ => .stuck
    else .stuck
  | .stuck => .stuck
  | .nx e1 m1 => .nx e1 m1
  | .rt d m1 => .rt d m1
  | .bk e1 m1 => .bk e1 m1
  | .ct e1 m1 => .ct e1 m1 := rfl
section
variable {X : Cx} {n : Str} {i : Nat} {cs : List Addr} {body suite : List Stmt} {b₀ : Stmt} {t : Expr} {pos pos' : Pos} {tb ts : DS}
/-- the worlds of a suite: the exception and its fields stand for good -/
theorem suite_wd {K : PySem.W.Frag} {S T : Wd} {m : Mu} {a dd C : Addr} {oe : Obj} {vs : List (Str × V)} {w : Array Value} (st : Stp S T) (hS : S.H dd = none) (sa : Sta K T m) (na : T.H a = none) (hz : Zc (.ref C) (some dd) oe) (hw : oe.data = .fields w) (hd : T.H dd = some (.xd vs)) :
    ∃ T2 : Wd, T2.H = upd T.H a (pinO a oe) ∧ Stp S T2 ∧ Ext T.F T2.F ∧ T2.i = T.i ∧ Sta K T2 m ∧ XobAt T2.F C a vs := by
  have st1 := Stp.new sa (o := pinO a oe) na
  have sa1 := sa.new (o := pinO a oe) na
  have nda : dd ≠ a := fun z => by rw [z, na] at hd; cases hd
  have hd1 : (T.new a (pinO a oe)).H dd = some (.xd vs) := by show upd T.H a _ dd = _; rw [upd_ne nda]; exact hd
  cases hF : (T.new a (pinO a oe)).F dd with
  | some o =>
    have := sa1.sub _ _ hF
    rw [hd1] at this
    cases this
    exact ⟨_, rfl, st.trans st1, st1.ext, rfl, sa1, oe, dd, upd_same, hz.1, hz.2, ⟨w, hw⟩, hF⟩
  | none =>
    have hi : dd ∉ (T.new a (pinO a oe)).i := fun h => by
      obtain ⟨n, hn⟩ := List.getElem?_of_mem h
      have hl : n < m.length := by rw [← sa1.len]; exact (List.getElem?_eq_some_iff.mp hn).1
      have q := sa1.ok n dd _ hn (List.getElem?_eq_getElem hl)
      cases e : m[n] with
      | lst ds => rw [e] at q; obtain ⟨xs, q1, _⟩ := q; rw [hd1] at q1; cases q1
      | ins C fs => rw [e] at q; obtain ⟨dx, vs, q1, _⟩ := q; rw [hd1] at q1; cases q1
      | exo C d =>
        rw [e] at q
        cases d with
        | none => rw [show (T.new a (pinO a oe)).H dd = _ from q] at hd1; unfold exo at hd1; cases hd1
        | some k => obtain ⟨dx, _, q1⟩ := q; rw [q1] at hd1; unfold exo at hd1; cases hd1
      | exd fs => rw [e] at q; obtain ⟨vs, q1, _⟩ := q; rw [q1] at hd1; unfold exd at hd1; cases hd1
      | dik kvs => rw [e] at q; obtain ⟨vs, q1, _⟩ := q; rw [hd1] at q1; cases q1
      | dit kvs => rw [e] at q; obtain ⟨vs, q1, _⟩ := q; rw [hd1] at q1; cases q1
    have sa2 := sa1.keep hd1 hF hi (fun ps => nofun)
    have st2 := (st.trans st1).kept (o := .xd vs) hS hF
    exact ⟨_, rfl, st2, st1.ext.trans (Ext.updNew hF), rfl, sa2, oe, dd, by show upd (upd T.F a _) dd _ a = _; rw [upd_ne (Ne.symm nda), upd_same], hz.1, hz.2, ⟨w, hw⟩, upd_same⟩
theorem Rep.ofXob {K : PySem.W.Frag} {i : List Addr} {F : Hp} {C a : Addr} {fs : List (Str × D)} {vs : List (Str × V)} (h : XobAt F C a vs) (r : RepF K i F fs vs) : Rep K i F (.xob ⟨C, fs.map (·.1)⟩ (fs.map (·.2))) (.ref a) :=
  .xob h r.split.1 r.split.2
theorem pds_tryAs (hs : X.stack = X.env :: X.outer) (hf : X.env.frame = some X.env.locals) (hN : X.N.Nodup) (hi : X.N[i]? = some n) (hln : X.env.kindOf n = some .local) (hex : X.ex = []) (ht : TestOk X t cs) (hb : ∀ pn xe, PDSs (X.tr pn xe) body tb) (hsu : ∀ a pn, PDSs (X.suite a pn) (b₀ :: suite) ts) :
    PDS X (.Try body [.ExceptHandler (some t) (some n) (b₀ :: suite) pos'] [] [] pos) (dTryAs cs i tb ts) := by
  intro S r m σ N sa re p pins s I
  have ok := I.ok
  have hfr : X.A.frames = some (X.env :: X.outer) := by rw [ok.frames, hs]
  have hloc : Loc X.env.scope n := .inl hln
  refine wpAny_Try_except ?_
  refine wpAny_mono (hb (X.pn ++ pins) (fun e s₁ => wpAny (model X.prog X.w) X.A (noteFrame e X.env) (fun _ s₂ => wpAny (model X.prog X.w) X.A (setFlight e none) (fun _ s₃ =>
    wpAny (model X.prog X.w) X.A (handleBy e X.env [.ExceptHandler (some t) (some n) (b₀ :: suite) pos']) (SP X pins N) X.xe s₃) X.xe s₂) X.xe s₁) S r m σ N sa re ?_ [] s (I.toTry _)) (fun f s1 hsp => ?_) (fun e s1 he => he)
  · unfold dTryAs at p
    cases q : tb r m with
    | stuck => rw [q] at p; exact p.elim
    | nx e1 m1 => rw [q] at p; exact p
    | rt d m1 => rw [q] at p; exact p
    | bk e1 m1 => rw [q] at p; exact p
    | ct e1 m1 => rw [q] at p; exact p
    | exc C fs e1 m1 =>
      rw [q] at p
      dsimp only at p
      split at p
      · rename_i hC
        intro dd vs σT T stT hS saT reT hdd rf u s' xx
        obtain ⟨a, B, sI, pins', σ', H', cls, d, rfl, J', nb, up, sky, na, os, ag, z1, z2, z3, z4⟩ := xx
        subst z1 z2 z3 z4
        have J : Inv X pins σ' T.H sI := J'.ofTry ok
        have sky' : Sky B (X.env :: X.outer) a (Zc (.ref C) (some dd)) X.env.locals s'.heap := by rw [← hs]; exact sky
        show wpAny (model X.prog X.w) X.A (noteFrame (.ref a) X.env) _ _ _
        refine Sky.land Zc.steady hfr hf sky' fun h3 fl3 up3 => ?_
        have J3 : Inv X pins σ' T.H { s' with heap := h3 } := J.landed nb fl3.1 (up.trans up3) os ag
        obtain ⟨oe3, vs3, he3, hz3, hd3⟩ := fl3.there
        have notFr : ∀ {h : Heap} {o : Obj} {vs : Array Value}, h.FunFrames B (X.env :: X.outer) → h.get? a = some o → o.data = .fields vs → a ∉ frs (X.env :: X.outer) := fun {h o vs} ff e dd hm => by
          obtain ⟨_, o', e', hnf⟩ := ff.mem hm
          rw [e] at e'; cases e'
          exact hnf _ dd
        have nfr := notFr fl3.2.2.1 he3 hd3
        have nL : a ≠ X.env.locals := fun z => nfr (List.mem_filterMap.mpr ⟨X.env, List.mem_cons_self, by rw [hf, z]⟩)
        have S3 := J3.suiteQ a
        have LT : PySem.W.Looks (model X.prog X.w) h3 (typeOf (.ref a)) (.ref C) := fun A Q E s k q => wpAny_typeOf_ref (k _ _ he3) (by rw [hz3.1]; exact q)
        refine wpAny_handleBy_cons (codeAny_handlers_test (ht a _ [] σ' T.H _ C _ _ _ hC S3 LT fun h3' kk => ?_)) (by intro q; cases q)
        show codeAny _ _ _ _ _
        refine codeAny_handlers_suite_as ?_
        have fl3' := flyingZ_keeps fl3 kk
        refine PySem.HandSPX.lands_againZ fl3' fun h4 fl4 up4 => ?_
        have up34 : sI.heap.UpToSlots h4 := ((up.trans up3).trans (Heap.UpToSlots.of_keeps kk)).trans up4
        have J4 : Inv X pins σ' T.H { s' with heap := h4 } := J.landed nb fl4.1 up34 os ag
        obtain ⟨oe4, vs4, he4, hz4, hd4⟩ := fl4.there
        have n0 : X.s_0.heap.get? a = none := by
          cases e : X.s_0.heap.get? a with
          | none => rfl
          | some o =>
            obtain ⟨o', e'⟩ := J.base.there a o e (by rw [hex]; simp)
            have z := nb a o' e' (by rw [hs]; exact nfr)
            rw [fl3.2.1] at z
            cases z
        have nC : ∀ y c, X.env.cells.lookup y = some c → c ≠ a := fun y c e z => by
          obtain ⟨v, o, ho, hdc⟩ := J.cell y c e
          obtain ⟨sl, k⟩ := up34 c o ho (fun vs z => by rw [hdc] at z; cases z)
          rw [z, he4] at k
          cases k
          rw [hd4] at hdc
          cases hdc
        have np : ∀ p ∈ X.pn ++ pins, p.1 ≠ a := fun p hp z => by
          obtain ⟨e, _, e3, e4, _⟩ := J.pin p hp
          have nf : p.1 ∉ frs X.stack := by
            rw [hs]
            intro hm
            obtain ⟨en, hen, q⟩ := List.mem_filterMap.mp hm
            rcases List.mem_cons.mp hen with h | h
            · rw [h, hf] at q
              exact e3 (Option.some.inj q).symm
            · exact e4 (List.mem_filterMap.mpr ⟨en, h, q⟩)
          have z2 := nb _ _ e nf
          rw [z, fl3.2.1] at z2
          cases z2
        have J5 : Inv X pins σ' (upd T.H a (pinO a oe4)) { s' with heap := h4 } := Inv.track J4 he4 na n0 nL nC np
        obtain ⟨T2, hT2, stT2, exT2, hiT2, saT2, xobT2⟩ := suite_wd (K := X.K) stT hS saT na hz4 hd4 hdd
        rw [← hT2] at J5
        have S5 := J5.suiteQ a
        refine store_ok (X := X.suite a (X.pn ++ pins)) (v := .ref a) S5 hN hi hloc rfl (fun s5 S5 => ?_) (.inr hln)
        have re2 : RelE X.K T2 (e1.set i (some (.xob ⟨C, fs.map (·.1)⟩ (fs.map (·.2))))) (σ'.set i (some (.ref a))) := by
          refine RelE.set ⟨reT.1, fun j d hj => ?_⟩ i (Rep.ofXob xobT2 (by rw [hiT2]; exact rf.mono (List.prefix_refl _) exT2))
          obtain ⟨v, h1, h2⟩ := reT.2 j d hj
          exact ⟨v, h1, by rw [hiT2]; exact h2.mono (List.prefix_refl _) exT2⟩
        refine wpAny_mono (hsu a (X.pn ++ pins) T2 _ m1 _ { nx := fun σ' H' => N.nx (σ'.set i none) H', rt := N.rt, bk := fun _ _ => False, ct := fun _ _ => False } saT2 re2 ?_ [] s5 S5) (fun f s6 hsp => ?_) (fun _ _ z => False.elim z)
        · cases q2 : ts (e1.set i (some (.xob ⟨C, fs.map (·.1)⟩ (fs.map (·.2))))) m1 with
          | nx e2 m2 => rw [q2] at p; exact fun σU U stU saU reU => p _ U (stT2.trans stU) saU (reU.unset i)
          | rt d m2 => rw [q2] at p; exact fun v U stU saU rU => p v U (stT2.trans stU) saU rU
          | stuck => rw [q2] at p; exact p.elim
          | bk e2 m2 => rw [q2] at p; exact p.elim
          | ct e2 m2 => rw [q2] at p; exact p.elim
          | exc C2 f2 e2 m2 => rw [q2] at p; exact p.elim
        have end_ : ∀ {σ6 : L2.St} {H6 : Hp} {Q : Shared → Prop}, Inv (X.suite a (X.pn ++ pins)) [] σ6 H6 s6 → (∀ s7, Inv X pins (σ6.set i none) H6 s7 → Q s7) →
            wpAny (model X.prog X.w) X.A (do bindName X.env n .none; unbindBehindTheSuite X.env n pos') (fun _ s7 => Q s7) X.xe s6 := fun {σ6 H6 Q} S6 hq => gone_ok (S6.unsuiteQ ok) hN hi hln hq
        cases f with
        | next =>
          obtain ⟨σ6, H6, S6, q6⟩ := hsp
          exact end_ S6 fun s7 J7 => ⟨_, _, J7, q6⟩
        | brk =>
          obtain ⟨σ6, H6, S6, q6⟩ := hsp
          exact q6.elim
        | cont =>
          obtain ⟨σ6, H6, S6, q6⟩ := hsp
          exact q6.elim
        | ret u =>
          obtain ⟨v6, σ6, H6, S6, r6, q6⟩ := hsp
          exact end_ S6 fun s7 J7 => ⟨_, _, _, J7, r6, q6⟩
      · exact p.elim
  · cases f with
    | next =>
      obtain ⟨σ', H', J', q⟩ := hsp
      exact wpAny_execs_nil ⟨σ', H', J'.ofTry ok, q⟩
    | brk =>
      obtain ⟨σ', H', J', q⟩ := hsp
      exact ⟨σ', H', J'.ofTry ok, q⟩
    | cont =>
      obtain ⟨σ', H', J', q⟩ := hsp
      exact ⟨σ', H', J'.ofTry ok, q⟩
    | ret u =>
      obtain ⟨v, σ', H', J', r, q⟩ := hsp
      exact ⟨v, σ', H', J'.ofTry ok, r, q⟩
theorem pds_try (hs : X.stack = X.env :: X.outer) (hf : X.env.frame = some X.env.locals) (ht : TestOk X t cs) (hb : ∀ pn xe, PDSs (X.tr pn xe) body tb) (hsu : ∀ a pn, PDSs (X.suite a pn) (b₀ :: suite) ts) :
    PDS X (.Try body [.ExceptHandler (some t) none (b₀ :: suite) pos'] [] [] pos) (dTry cs tb ts) := by
  intro S r m σ N sa re p pins s I
  have ok := I.ok
  have hfr : X.A.frames = some (X.env :: X.outer) := by rw [ok.frames, hs]
  refine wpAny_Try_except ?_
  refine wpAny_mono (hb (X.pn ++ pins) (fun e s₁ => wpAny (model X.prog X.w) X.A (noteFrame e X.env) (fun _ s₂ => wpAny (model X.prog X.w) X.A (setFlight e none) (fun _ s₃ =>
    wpAny (model X.prog X.w) X.A (handleBy e X.env [.ExceptHandler (some t) none (b₀ :: suite) pos']) (SP X pins N) X.xe s₃) X.xe s₂) X.xe s₁) S r m σ N sa re ?_ [] s (I.toTry _)) (fun f s1 hsp => ?_) (fun e s1 he => he)
  · unfold dTry at p
    cases q : tb r m with
    | stuck => rw [q] at p; exact p.elim
    | nx e1 m1 => rw [q] at p; exact p
    | rt d m1 => rw [q] at p; exact p
    | bk e1 m1 => rw [q] at p; exact p
    | ct e1 m1 => rw [q] at p; exact p
    | exc C fs e1 m1 =>
      rw [q] at p
      dsimp only at p
      split at p
      · rename_i hC
        intro dd vs σT T stT hS saT reT hdd rf u s' xx
        obtain ⟨a, B, sI, pins', σ', H', cls, d, rfl, J', nb, up, sky, na, os, ag, z1, z2, z3, z4⟩ := xx
        subst z1 z2 z3 z4
        have J : Inv X pins σ' T.H sI := J'.ofTry ok
        have sky' : Sky B (X.env :: X.outer) a (Zc (.ref C) (some dd)) X.env.locals s'.heap := by rw [← hs]; exact sky
        show wpAny (model X.prog X.w) X.A (noteFrame (.ref a) X.env) _ _ _
        refine Sky.land Zc.steady hfr hf sky' fun h3 fl3 up3 => ?_
        have J3 : Inv X pins σ' T.H { s' with heap := h3 } := J.landed nb fl3.1 (up.trans up3) os ag
        obtain ⟨oe3, vs3, he3, hz3, hd3⟩ := fl3.there
        have S3 := J3.suiteQ a
        have LT : PySem.W.Looks (model X.prog X.w) h3 (typeOf (.ref a)) (.ref C) := fun A Q E s k q => wpAny_typeOf_ref (k _ _ he3) (by rw [hz3.1]; exact q)
        refine wpAny_handleBy_cons (codeAny_handlers_test (ht a _ [] σ' T.H _ C _ _ _ hC S3 LT fun h3' kk => ?_)) (by intro q; cases q)
        show codeAny _ _ _ _ _
        refine codeAny_handlers_suite ?_
        have fl3' := flyingZ_keeps fl3 kk
        refine PySem.HandSPX.lands_againZ fl3' fun h4 fl4 up4 => ?_
        have up34 : sI.heap.UpToSlots h4 := ((up.trans up3).trans (Heap.UpToSlots.of_keeps kk)).trans up4
        have J4 : Inv X pins σ' T.H { s' with heap := h4 } := J.landed nb fl4.1 up34 os ag
        have S5 := J4.suiteQ a
        refine wpAny_mono (hsu a (X.pn ++ pins) T _ m1 _ { nx := N.nx, rt := N.rt, bk := fun _ _ => False, ct := fun _ _ => False } saT reT ?_ [] _ S5) (fun f s6 hsp => ?_) (fun _ _ z => False.elim z)
        · cases q2 : ts e1 m1 with
          | nx e2 m2 => rw [q2] at p; exact fun σU U stU saU reU => p _ U (stT.trans stU) saU reU
          | rt d m2 => rw [q2] at p; exact fun v U stU saU rU => p v U (stT.trans stU) saU rU
          | stuck => rw [q2] at p; exact p.elim
          | bk e2 m2 => rw [q2] at p; exact p.elim
          | ct e2 m2 => rw [q2] at p; exact p.elim
          | exc C2 f2 e2 m2 => rw [q2] at p; exact p.elim
        cases f with
        | next =>
          obtain ⟨σ6, H6, S6, q6⟩ := hsp
          exact ⟨_, _, S6.unsuiteQ ok, q6⟩
        | brk =>
          obtain ⟨σ6, H6, S6, q6⟩ := hsp
          exact q6.elim
        | cont =>
          obtain ⟨σ6, H6, S6, q6⟩ := hsp
          exact q6.elim
        | ret u =>
          obtain ⟨v6, σ6, H6, S6, r6, q6⟩ := hsp
          exact ⟨_, _, _, S6.unsuiteQ ok, r6, q6⟩
      · exact p.elim
  · cases f with
    | next =>
      obtain ⟨σ', H', J', q⟩ := hsp
      exact wpAny_execs_nil ⟨σ', H', J'.ofTry ok, q⟩
    | brk =>
      obtain ⟨σ', H', J', q⟩ := hsp
      exact ⟨σ', H', J'.ofTry ok, q⟩
    | cont =>
      obtain ⟨σ', H', J', q⟩ := hsp
      exact ⟨σ', H', J'.ofTry ok, q⟩
    | ret u =>
      obtain ⟨v, σ', H', J', r, q⟩ := hsp
      exact ⟨v, σ', H', J'.ofTry ok, r, q⟩
end
/-! ### an attribute of a caught exception -/
def dXf (Cs : List Addr) (f : Str) (t : DE) : DE := fun e m => (t e m).bind fun d m1 => match d with
  | .xob c ds => match (c.ns.zip ds).lookup f with
    | some v => if c.a ∈ Cs then .ok v m1 else .stuck
    | none => .stuck
  | _ => .stuck
@[simp ↓] theorem dXf_ap (Cs : List Addr) (f : Str) (t : DE) (e : En) (m : Mu) : dXf Cs f t e m = (t e m).bind fun d m1 => match d with
  | .xob c ds => match (c.ns.zip ds).lookup f with
    | some v => if c.a ∈ Cs then .ok v m1 else .stuck
    | none => .stuck
  | _ => .stuck := rfl
theorem zip_fst {α β : Type} : ∀ {l : List α} {r : List β}, l.length = r.length → (l.zip r).map (·.1) = l ∧ (l.zip r).map (·.2) = r
  | [], [], _ => ⟨rfl, rfl⟩
  | a :: l, b :: r, h => by
    obtain ⟨h1, h2⟩ := zip_fst (l := l) (r := r) (by simpa using h)
    exact ⟨by simp [h1], by simp [h2]⟩
theorem pd_xf {X : Cx} {Cs : List Addr} {f : Str} {o : Expr} {t : DE} {pos : Pos} (he : PDE X o t) (hC : ∀ C ∈ Cs, XfC X.K C ∧ PySem.W.findIn X.K (.ref C) f = some none) (hb : attributeBase o f X.env (eval o X.env) = eval o X.env := by rfl) : PDE X (.Attribute o f pos) (dXf Cs f t) := by
  intro S r m σ Q sa re q pins s I
  refine attr_of hb (thn (he.run sa re q I) ?_)
  rintro u s1 ⟨x, d, m1, T, st, sa1, rd, rx, I1, q1⟩
  split at q1
  · rename_i c ds
    split at q1
    · rename_i v hv
      split at q1
      · rename_i hc
        obtain ⟨T1, hno⟩ := hC _ hc
        cases rd with
        | @xob _ _ a vs hx hn rds =>
        obtain ⟨oe, dx, e1, e2, e3, ⟨w, e4⟩, e5⟩ := hx
        have hl : c.ns.length = ds.length := by rw [rds.len, ← hn]; simp
        obtain ⟨z1, z2⟩ := zip_fst hl
        have rf : RepF X.K T.i T.F (c.ns.zip ds) vs := RepF.join (by rw [z1]; exact hn) (by rw [z2]; exact rds)
        obtain ⟨v', l1, rv⟩ := rf.get hv
        obtain rfl : u = Value.ref a := rx
        have ha : s1.heap.get? a = some oe := (I1.hok a _ (sa1.sub _ _ e1)).1
        have hx : ObjOk X.prog X.w T.H s1.heap dx (.xd vs) := I1.hok dx _ (sa1.sub _ _ e5)
        obtain ⟨mA, hns, hr⟩ := hx
        obtain ⟨od, ho, hlk⟩ := lookIn_ns hns
        obtain ⟨u, hu, ru⟩ := RelO.some_of (v := v') (o := mA f) (by rw [← l1]; exact hr f)
        have J : PySem.W.InstAt s1.heap a oe c.a (some od) := ⟨ha, e2, by unfold PySem.W.notCls; rw [e4] <;> rfl, by rw [e3]; exact ho⟩
        exact PySem.HandSPX.exc_get I1.kIn J T1.ga T1.gg T1.exC (PySem.W.findObj_own T1.hdC hno rfl (by rw [hlk, hu])) (handed_of ru) ⟨v', _, I1.tok _, ru, Post.ok q1 (Stp.refl T) sa1 rv⟩
      · exact q1.elim
    · exact (show False from q1).elim
  · exact (show False from q1).elim
/-! ### defs that are called in a suite: nothing is raised there, nothing is walked -/
structure FnQ (P : Program) (w : World) (K : PySem.W.Frag) (mg : Str → Option Value) (base : Heap) (CX : CXT) (k : Nat) (f : Addr) (fd : FuncData) (ps : List Str) (sp : Sp) : Prop where
  run : ∀ (A : Around) (outer : List Env) (s : Shared) (H : Hp) (args : Args) (us : List Value) (vs : List V) (Q : VK) (E : XK), L2H.RoomH k A → Env0 P w K mg base A outer s H → BindsTo s fd args (ps.zip us) → Vals vs us → sp vs H Q E →
    codeAny (model P w) A (.call (.ref f) args) (CR CX outer P w H s Q E) s
def cxQ (CX : CXT) (P : Program) (w : World) (K : PySem.W.Frag) (mg : Str → Option Value) (base : Heap) (N : List Str) (qual : Str) (scope : Scope) (f : Addr) (cd : Value) (A : Around) (outer : List Env) (s : Shared) (H : Hp) (E : XK) : Cx :=
  { cxOf CX P w K mg base N qual scope f cd A outer s H E with calm := false }
section
variable {P : Program} {w : World} {K : PySem.W.Frag} {mg : Str → Option Value} {base : Heap}
theorem inv_startQ {CX : CXT} {N ps : List Str} {qual : Str} {scope : Scope} {f : Addr} {cd : Value} {A : Around} {outer : List Env} {s s1 : Shared} {H : Hp} {E : XK} {us : List Value} {vs : List V}
    (S : FnScope N ps scope) (e0 : Env0 P w K mg base A outer s H) (hl : vs.length = ps.length) (r : Vals vs us)
    (x : InCallC s s.heap.objs.size (bindL (envOfC qual scope s.heap.objs.size f cd).kindOf (ps.zip us) fun _ => none) (cellsFrom (s.heap.objs.size + 1) scope.names []) (bindC (envOfC qual scope s.heap.objs.size f cd).kindOf (ps.zip us) fun _ => none) s1) :
    Inv (cxQ CX P w K mg base N qual scope f cd A outer s H E) [] (L2.start N vs) H s1 := by
  have J := inv_start (CX := CX) (E := E) (A := { A with handled := none }) S rfl ⟨e0.frames, e0.mod, e0.bs, e0.bsz, e0.funs, e0.frf, e0.hok, e0.bare⟩ hl r x
  have o := J.ok
  exact ⟨⟨o.mod, o.kind, o.glob, o.blt, o.above, o.inj, o.has, o.cab, (fun z => Bool.noConfusion (show false = true from z)), Around.frames_deeper e0.frames, o.stk, o.exf, o.bs, o.bsz, o.noex, o.exfs, o.funs, o.frf⟩, J.os, J.bare, J.base, J.loc, J.cell, J.free, J.freeC, J.pin, J.hok, J.len⟩
abbrev FnDQ (P : Program) (w : World) (K : PySem.W.Frag) (mg : Str → Option Value) (base : Heap) (k : Nat) (f : Addr) (fd : FuncData) (ps : List Str) (F : DFn) : Prop := FnQ P w K mg base (L2.CX P w) k f fd ps (spD K ps.length F)
def noExcR (r : Res D) : Res D := match r with
  | .ok d m => .ok d m
  | _ => .stuck
theorem fnDQ_of {x qual : Str} {params : Arguments} {body : List Stmt} {scope : Scope} {dvs : List V} {kws : List (Str × V)} {f : Addr} {fd : FuncData} {N ps : List Str} {k : Nat} {t : DS} (F : FunD K x qual params body scope dvs kws f fd) (S : FnScope N ps scope)
    (h : ∀ (cdv : Value) (A : Around) (outer : List Env) (s : Shared) (H : Hp) (E : XK), L2H.RoomH k (A.deeper (envOfC qual scope s.heap.objs.size f cdv)) → PDSs (cxQ (L2.CX P w) P w K mg base N qual scope f cdv A outer s H E) body t) :
    FnDQ P w K mg base (k + 1) f fd ps fun ds m => noExcR (dFn N.length t ds m) := by
  obtain ⟨oc, od, dV, kV, doc, pm, an, cdv, ct, osl, rfl, lk, hcd, _, _⟩ := F.ex
  refine ⟨fun A outer s H args us vs Q E hr e0 hb r hsp => ?_⟩
  obtain ⟨hl, T, m, ds, rfl, sa, rd, p⟩ := hsp
  have KX : K.In s.heap := e0.mod.kin.keeps fun b o e => (e0.bs b o e).1
  have lim : s.heap.NoLimit := e0.mod.nolimit.keeps fun b o e => (e0.bs b o e).1
  have hkind : ∀ y ∈ ps.zip us, scope.names.lookup y.1 = some .local ∨ (scope.names.lookup y.1 = some .cell ∧ ((cellsFrom (s.heap.objs.size + 1) scope.names []).lookup y.1).isSome = true) := fun ⟨n, v⟩ hy => by
    rcases S.par n (List.of_mem_zip hy).1 with q | q
    · exact .inl q
    · exact .inr ⟨q, PySem.W.cellsFrom_some _ _ _ (.inl q)⟩
  refine codeAny_call_function hr.depth (KX _ _ lk) rfl S.co S.gen rfl (PySem.W.codeRec_of KX hcd) (hb _ _ _ _ ?_)
  refine wpAny_newFunctionEnv_cells S.kind hkind fun env he s1 x => ?_
  subst he
  refine ⟨lim.keeps x.toInCall.keep, codeAny_func ?_⟩
  have I := inv_startQ (CX := L2.CX P w) (E := E) S e0 hl r x
  refine wpAny_mono (h cdv A outer s T.H E (hr.deeper _) T (env0 N.length ds) m (L2.start N vs) { nx := fun _ H' => Q .non H', rt := Q } sa (relE_start rd) ?_ [] s1 I) (fun fl s' hs => ?_) fun e s' hs => hs
  · unfold noExcR dFn at p
    dsimp only at p
    cases q : t (env0 N.length ds) m with
    | stuck => rw [q] at p; exact p.elim
    | nx e m1 => rw [q] at p; exact fun σ U st sa1 re => p .non U st sa1 .non
    | rt d m1 => rw [q] at p; exact fun v U st sa1 r1 => p v U st sa1 r1
    | bk e m1 => rw [q] at p; exact p.elim
    | ct e m1 => rw [q] at p; exact p.elim
    | exc C fs e m1 => rw [q] at p; exact p.elim
  have fin : ∀ {σ' : L2.St} {H' : Hp} {v : V} {u : Value}, Inv (cxQ (L2.CX P w) P w K mg base N qual scope f cdv A outer s T.H E) [] σ' H' s' → L2.RelV v u → Q v H' → CE outer P w T.H s Q u s' :=
    fun {σ' H' v u} J rv q => ⟨v, H', J.os, J.bare, J.base, J.hok, rv, q⟩
  cases fl with
  | ret u =>
    obtain ⟨v, σ', H', J, rv, q⟩ := hs
    exact fin J rv q
  | next =>
    obtain ⟨σ', H', J, q⟩ := hs
    exact fin (v := V.non) (u := Value.none) J rfl q
  | brk =>
    obtain ⟨_, _, _, q⟩ := hs
    exact False.elim q
  | cont =>
    obtain ⟨_, _, _, q⟩ := hs
    exact False.elim q
/-- a def by its global name, called in a suite -/
structure FQ (P : Program) (w : World) (K : PySem.W.Frag) (mg : Str → Option Value) (base : Heap) (k : Nat) (x : Str) (G : DFn) : Prop where
  ex : ∃ (f : Addr) (fd : FuncData) (ps : List Str) (dds : List D) (G0 : DFn), mg x = some (.ref f) ∧ PySem.W.keepIn K (.ref f) = true ∧ FnDQ P w K mg base k f fd ps G0 ∧ Bd K fd ps dds ∧ G = padF ps.length dds G0
end
section
variable {X : Cx} {k : Nat} {G : DFn} {x : Str} {p pos : Pos} {e : Expr} {es : List Expr} {t : DA}
theorem pd_funQ (F : FQ X.prog X.w X.K X.mg X.base k x G) (hr : L2H.RoomH k X.A) (ha : PDA X (e :: es) t)
    (hg : Gl X x := by rfl) (hdb : (x == ("__debug__" : Str)) = false := by decide) (he : starEach (e :: es) X.env = (false, eval e X.env) :: starEach es X.env := by exact se_cons _ _ _ rfl) (hpl : (backTo pos (starEach es X.env)).any (·.1) = false := by exact se_any _ _ _ rfl) :
    PDE X (.Call (.Name x p) (e :: es) [] pos) (dFun G t) := by
  obtain ⟨f, fd, ps, dds, G0, hm, hk, hf, hb, rfl⟩ := F.ex
  intro S r m σ Q sa re q pins s I
  refine wpAny_Call_Name_kw (ld_glob I hg hm ?_ hdb)
  refine PySem.W.callWith_K (h₀ := X.base) I.ok.mod.kin hk (thn (ha.run sa re q I pos) ?_) he hpl
  rintro us s1 ⟨xs, das, m1, T, st, sa1, rds, rv, I1, q1⟩
  refine ⟨I1.kIn, ?_⟩
  unfold padF at q1
  split at q1
  · rename_i hl
    obtain ⟨ds, dvs, hb, hd, hD⟩ := hb.ex
    have r1 : Reps X.K T.i T.F (das ++ dds) (xs ++ dvs) := rds.append (hD _ _)
    have r2 : Vals (xs ++ dvs) (us ++ ds) := rv.append hd
    have hlv : (xs ++ dvs).length = ps.length := by rw [← r1.len]; exact hl
    have hl2 : (us ++ ds).length = ps.length := by rw [← r2.length]; exact hlv
    refine wpAny_call (codeAny_mono (hf.run X.A X.stack s1 T.H ⟨us, []⟩ (us ++ ds) (xs ++ dvs) Q (fun c d H => Fly X c d σ H) hr I1.env0 (hb s1 us I1.kIn hl2) r2 ⟨hlv, T, m1, _, rfl, sa1, r1, q1⟩) fun r s' hq => ?_)
    cases r with
    | error e =>
      obtain ⟨a, B, sI, pins', σ', H', cls, d, e1, I', nb, up, sky, na, os, ag, e2, fl⟩ := XE.of_call I1 (W := fun c d σ' H => σ' = σ ∧ Fly X c d σ H) (fun cls d H' h => ⟨rfl, h⟩) hq
      exact fl e s' ⟨a, B, sI, pins', σ', H', cls, d, e1, I', nb, up, sky, na, os, ag, rfl, rfl, e2, rfl⟩
    | ok fl =>
      cases fl with
      | ret u => exact I1.after hq
      | next => exact False.elim hq
      | brk => exact False.elim hq
      | cont => exact False.elim hq
  · exact q1.elim
end
end DL

set_option maxHeartbeats 4000000
/-! Lambdas: their making. -/
namespace DL
open PySem PySem.Spec PyProof.Rows L2
open LamX (CodeO TabB)
/-- a lambda's object with its defaults -/
abbrev lamObj (qual : Str) (params : Arguments) (body : Expr) (scope : Scope) (clos : List (Str × Addr)) (pm cv ctv dV : Value) : Obj :=
  { cls := .type "function", data := .func { name := "<lambda>", qualname := qual, params, body := .expr body, scope, globals := mainGlobals, closure := clos, defaults := dV, kwdefaults := .none, doc := .none, pyModule := pm, annotations := none, code := cv, closureTuple := ctv, builtins := builtinsNs } }
section
open PySem.W PySem.Calls
variable {M : Model} {A : Around} {E : Value → Shared → Prop} {s : Shared} {qual : Str} {params : Arguments} {body : Expr} {scope : Scope} {env : Env} {c P : Addr} {ps : Array Value} {pos : Pos} {firstLine : Nat} {mg : Str → Option Value}
  {clos : List (Str × Addr)} {Q : Value → Shared → Prop} {dV : Value}
theorem lam_tail (hcl : closureFor scope env = pure clos) (hge0 : env.globals = mainGlobals) (hg : s.heap.Ns mainGlobals mg) (hcode : env.code = .ref c) (C : CodeHd s.heap c P) (hP : s.heap.get? P = some (tabObj ps)) (ht : TriplesOk ps.toList)
    (hnf : codeAmong pos ps.toList = none) (hgP : mainGlobals ≠ P) (hb : s.heap.BuiltinsAt mg P)
    (h : ∀ c' ctv h' tk, Heap.ExtBut P s.heap h' → s.heap.objs.size ≤ c' → c' < h'.objs.size → h'.CodeRec (.ref c') qual → h'.get? P = some (tabObj (ps ++ #[rawInt pos.line, rawInt pos.col, .ref c'])) →
      Q (.ref h'.objs.size) { s with heap := h'.push (lamObj qual params body scope clos ((mg "__name__").getD .none) (.ref c') ctv dV), toks := tk }) :
    wpAny M A (makeTail "<lambda>" qual params (.expr body) scope env dV .none none pos firstLine) Q E s := by
  obtain ⟨bm, ob, hbm, hne0, _, hneP, hbo, hcls, hdict, hdata⟩ := hb
  unfold makeTail
  rw [hcl, hge0]
  refine wpAny_bind (wpAny_pure ?_)
  cases clos with
  | nil =>
    simp only [List.isEmpty_nil, if_true]
    refine wpAny_bind (wpAny_pure ?_)
    refine wpAny_bind (wpAny_functionCodeX hcode (C.code hP ht) (C.tab hP) hnf fun c' h' tk hx hge hlt _ hrec htb _ => ?_)
    have hg' := hg.extBut hx hgP
    refine wpAny_bind (wpAny_builtinsFor hg' hbm hne0 (hx _ _ hneP hbo) hcls hdict hdata ?_)
    refine wpAny_bind (wpAny_nsGet hg' ?_)
    exact wpAny_bind (wpAny_pure (wpAny_newObj_type (h c' .none h' tk hx hge hlt hrec htb.2) (by size_fits)))
  | cons q r =>
    simp only [List.isEmpty_cons, Bool.false_eq_true, if_false]
    refine wpAny_bind (wpAny_newTextTuple ?_)
    refine wpAny_bind (wpAny_functionCodeX hcode ((C.keeps fun b o e => Heap.get?_push_of_some _ e).code (Heap.get?_push_of_some _ hP) ht) ((C.keeps fun b o e => Heap.get?_push_of_some _ e).tab (Heap.get?_push_of_some _ hP)) hnf fun c' h' tk hx hge hlt _ hrec htb _ => ?_)
    have hg' := (hg.push _).extBut hx hgP
    have hx' : Heap.ExtBut P s.heap h' := fun b o hb' e => hx b o hb' (Heap.get?_push_of_some _ e)
    have hge' : s.heap.objs.size ≤ c' := Nat.le_trans (by rw [Heap.size_push]; omega) hge
    refine wpAny_bind (wpAny_builtinsFor hg' hbm hne0 (hx' _ _ hneP hbo) hcls hdict hdata ?_)
    refine wpAny_bind (wpAny_nsGet hg' ?_)
    exact wpAny_bind (wpAny_pure (wpAny_newObj_type (h c' _ h' tk hx' hge' hlt hrec htb.2) (by size_fits)))
theorem lam_tailHit {cv : Value} (hcl : closureFor scope env = pure clos) (hge0 : env.globals = mainGlobals) (hg : s.heap.Ns mainGlobals mg) (hcode : env.code = .ref c) (C : CodeHd s.heap c P) (hP : s.heap.get? P = some (tabObj ps)) (ht : TriplesOk ps.toList)
    (hf : codeAmong pos ps.toList = some cv) (hb : s.heap.BuiltinsAt mg P)
    (h : ∀ (ctv : Value) (h' : Heap) (tk : Tok), (∀ b o, s.heap.get? b = some o → h'.get? b = some o) → s.heap.objs.size ≤ h'.objs.size →
      Q (.ref h'.objs.size) { s with heap := h'.push (lamObj qual params body scope clos ((mg "__name__").getD .none) cv ctv dV), toks := tk }) :
    wpAny M A (makeTail "<lambda>" qual params (.expr body) scope env dV .none none pos firstLine) Q E s := by
  obtain ⟨bm, ob, hbm, hne0, _, hneP, hbo, hcls, hdict, hdata⟩ := hb
  unfold makeTail
  rw [hcl, hge0]
  refine wpAny_bind (wpAny_pure ?_)
  cases clos with
  | nil =>
    simp only [List.isEmpty_nil, if_true]
    refine wpAny_bind (wpAny_pure ?_)
    refine wpAny_bind (wpAny_functionCode_hit hcode (C.code hP ht) hf ?_)
    refine wpAny_bind (wpAny_builtinsFor hg hbm hne0 hbo hcls hdict hdata ?_)
    refine wpAny_bind (wpAny_nsGet hg ?_)
    exact wpAny_bind (wpAny_pure (wpAny_newObj_type (h .none s.heap s.toks (fun _ _ e => e) (Nat.le_refl _)) (by size_fits)))
  | cons q r =>
    simp only [List.isEmpty_cons, Bool.false_eq_true, if_false]
    refine wpAny_bind (wpAny_newTextTuple ?_)
    refine wpAny_bind (wpAny_functionCode_hit hcode ((C.keeps fun b o e => Heap.get?_push_of_some _ e).code (Heap.get?_push_of_some _ hP) ht) hf ?_)
    refine wpAny_bind (wpAny_builtinsFor (hg.push _) hbm hne0 (Heap.get?_push_of_some _ hbo) hcls hdict hdata ?_)
    refine wpAny_bind (wpAny_nsGet (hg.push _) ?_)
    have hsz : ∀ oT : Obj, s.heap.objs.size ≤ (s.heap.push oT).objs.size := fun oT => by rw [Heap.size_push]; omega
    exact wpAny_bind (wpAny_pure (wpAny_newObj_type (h _ _ s.toks (fun b o e => Heap.get?_push_of_some _ e) (hsz _)) (by size_fits)))
end
variable [LamTab]
/-! ### the worlds -/
section
variable {K : PySem.W.Frag} {S : Wd} {m : Mu}
/-- a table of code objects grows by one -/
def Wd.tabled (S : Wd) (P c : Addr) (q : Str) (ps : Array Value) : Wd := ⟨S.i, upd S.F c (CodeO c q), upd (upd S.H P (.tbl ps)) c (CodeO c q)⟩
theorem tabled_ok {P c : Addr} {q : Str} {ps more : Array Value} (sa : Sta K S m) (hP : S.H P = some (.tbl ps)) (hF : S.F P = none) (hi : P ∉ S.i) (hc : S.H c = none) (hu : ∀ p ∈ LamTab.tbls K, p.1 = P → p.2 = q)
    (ht : TriplesOk (ps ++ more).toList) (ha : ∀ (pos : Pos) (cv : Value), codeAmong pos (ps ++ more).toList = some cv → codeAmong pos ps.toList = some cv ∨ cv = .ref c) : Stp S (S.tabled P c q (ps ++ more)) ∧ Sta K (S.tabled P c q (ps ++ more)) m := by
  have nPc : P ≠ c := ne_of_none hP hc
  have fr := sa.fresh hc
  have at_ : ∀ b o, S.H b = some o → (∀ q, o ≠ .tbl q) → (S.tabled P c q (ps ++ more)).H b = some o := fun b o e n => by
    have n1 : b ≠ c := ne_of_none e hc
    have n2 : b ≠ P := fun z => by rw [z, hP] at e; cases e; exact n ps rfl
    show upd (upd S.H P _) c _ b = _
    rw [upd_ne n1, upd_ne n2]; exact e
  have st : Stp S (S.tabled P c q (ps ++ more)) := ⟨List.prefix_refl _, Ext.updNew fr.1, fun a o hn h1 h2 h3 => ⟨at_ a o h1 hn, by
    show upd S.F c _ a = none
    rw [upd_ne (ne_of_none h1 hc)]; exact h2, h3⟩, fun a z => upd_none (upd_none z)⟩
  refine ⟨st, sa.nd, sa.len, fun a o e => ?_, fun a ha => ?_, fun a ha => ?_, fun n a o h1 h2 => ?_, fun r hr => ?_⟩
  · have e : upd S.F c (CodeO c q) a = some o := e
    show upd (upd S.H P _) c _ a = some o
    by_cases h : a = c
    · subst h; rw [upd_same] at e ⊢; exact e
    · rw [upd_ne h] at e ⊢
      rw [upd_ne (fun z => by rw [z, hF] at e; cases e)]
      exact sa.sub a o e
  · have ha : a ∈ S.i := ha
    show upd S.F c _ a = none
    rw [upd_ne (fun z : a = c => fr.2 (z ▸ ha))]
    exact sa.dis a ha
  · have ha : a ∈ S.i := ha
    obtain ⟨o, e⟩ := sa.tr a ha
    refine ⟨o, ?_⟩
    show upd (upd S.H P _) c _ a = some o
    rw [upd_ne (fun z : a = c => fr.2 (z ▸ ha)), upd_ne (fun z : a = P => hi (z ▸ ha))]
    exact e
  · have h1 : S.i[n]? = some a := h1
    have ha := List.mem_of_getElem? h1
    refine (sa.ok n a o h1 h2).stp st ?_
    show upd (upd S.H P _) c _ a = _
    rw [upd_ne (fun z : a = c => fr.2 (z ▸ ha)), upd_ne (fun z : a = P => hi (z ▸ ha))]
  · obtain ⟨ps', t1, t2, t3, t4, t5⟩ := sa.tb r hr
    have n1 : r.1 ≠ c := ne_of_none t1 hc
    by_cases h : r.1 = P
    · rw [h, hP] at t1
      cases t1
      refine ⟨ps ++ more, ?_, ?_, ?_, ht, fun pos cv hcv => ?_⟩
      · show upd (upd S.H P _) c _ r.1 = _
        rw [upd_ne n1, h, upd_same]
      · show upd S.F c _ r.1 = none
        rw [upd_ne n1]; exact t2
      · exact t3
      · rcases ha pos cv hcv with z | z
        · obtain ⟨c0, e1, e2⟩ := t5 pos cv z
          exact ⟨c0, e1, (Ext.updNew fr.1) _ _ e2⟩
        · refine ⟨c, z, ?_⟩
          rw [hu r hr h]
          exact upd_same
    · refine ⟨ps', ?_, ?_, t3, t4, fun pos cv hcv => ?_⟩
      · show upd (upd S.H P _) c _ r.1 = _
        rw [upd_ne n1, upd_ne h]; exact t1
      · show upd S.F c _ r.1 = none
        rw [upd_ne n1]; exact t2
      · obtain ⟨c0, e1, e2⟩ := t5 pos cv hcv
        exact ⟨c0, e1, (Ext.updNew fr.1) _ _ e2⟩
end
/-! ### the making -/
def dLam (k : Nat) (g : List (Str × Addr)) : DE := fun _ m => .ok (.lam k g) m
@[simp ↓] theorem dLam_ap (k : Nat) (g : List (Str × Addr)) (e : En) (m : Mu) : dLam k g e m = .ok (.lam k g) m := rfl
/-- the names that a lambda takes are cells of the maker -/
def lamFree (sc scope : Scope) (free : List Str) : Bool := scope.names.all fun y => !decide (y.2 = .free) || (decide (y.1 ∈ free) && (decide (sc.names.lookup y.1 = some .cell) || decide (sc.names.lookup y.1 = some .free)))
section
variable {X : Cx} {params : Arguments} {body : Expr} {scope : Scope} {lpos : Pos} {k : Nat} {c P : Addr} {dds : List Int} {pn free : List Str}
theorem lam_has (ok : X.Ok) (h : lamFree X.env.scope scope free = true) : ∀ y ∈ scope.names, y.2 = .free → y.1 ∈ free ∧ ∃ c, X.env.cells.lookup y.1 = some c := fun y hy e => by
  unfold lamFree at h
  have z := List.all_eq_true.mp h y hy
  simp only [Bool.or_eq_true, Bool.and_eq_true, Bool.not_eq_true', decide_eq_true_eq, decide_eq_false_iff_not] at z
  rcases z with z | ⟨z0, z | z⟩
  · exact absurd e z
  · exact ⟨z0, ok.has _ (.inl z)⟩
  · exact ⟨z0, ok.has _ (.inr z)⟩
theorem lam_clo (ok : X.Ok) (h : lamFree X.env.scope scope free = true) {y : Str} {c : Addr} (e : (cloFrom X.env.cells scope.names []).lookup y = some c) : y ∈ free ∧ X.env.cells.lookup y = some c := by
  rcases cloFrom_mem (PySem.mem_of_lookup e) with hm | ⟨h1, h2⟩
  · cases hm
  · obtain ⟨z0, c1, hc⟩ := lam_has ok h _ h1 rfl
    have hc : X.env.cells.lookup y = some c1 := hc
    have e2 : c = c1 := by
      rw [h2, hc] <;> rfl
    rw [e2]
    exact ⟨z0, hc⟩
theorem lam_at (ok : X.Ok) (h : lamFree X.env.scope scope free = true) {F : Hp} {f c' : Addr} {pm ctv dV : Value} (ht : LamTab.tab k = ⟨X.env.qual ++ "<lambda>", params, body, scope, pn, dds, free⟩)
    (h1 : F f = some (pinO f (lamObj (X.env.qual ++ "<lambda>") params body scope (cloFrom X.env.cells scope.names []) pm (.ref c') ctv dV))) (h2 : LamD F (LamTab.tab k) dV) (h3 : F c' = some (CodeO c' (X.env.qual ++ "<lambda>"))) :
    LamAt F (LamTab.tab k) (cloFrom X.env.cells scope.names []) f := by
  refine ⟨_, dV, c', h1, ⟨pm, ctv, by rw [ht]⟩, h2, by rw [ht]; exact h3, fun y z c e1 e2 => ok.inj y z c (lam_clo ok h e1).2 (lam_clo ok h e2).2, fun y hy e => ?_, fun y c e => by rw [ht]; exact (lam_clo ok h e).1⟩
  rw [ht] at hy
  obtain ⟨y1, y2⟩ := y
  have e : y2 = .free := e
  subst e
  exact mem_lookup (cloFrom_has (cells := X.env.cells) (acc := []) hy)
/-- with the defaults' tuple made -/
theorem lam_run {pins : List (Addr × Obj)} {σ : L2.St} {S : Wd} {m : Mu} {s : Shared} {dV : Value} {Q : VK} (hcode : X.env.code = .ref c) (TB : TabB X.base X.mg c P) (hm : (P, X.env.qual ++ "<lambda>") ∈ LamTab.tbls X.K) (hu : ∀ p ∈ LamTab.tbls X.K, p.1 = P → p.2 = X.env.qual ++ "<lambda>")
    (ht : LamTab.tab k = ⟨X.env.qual ++ "<lambda>", params, body, scope, pn, dds, free⟩) (hfree : lamFree X.env.scope scope free = true) (I : Inv X pins σ S.H s) (sa : Sta X.K S m) (hd : LamD S.F (LamTab.tab k) dV)
    (p : PostD X.K S (.ok (.lam k (cloFrom X.env.cells scope.names [])) m) Q (fun c d H => Fly X c d σ H)) :
    wpAny (model X.prog X.w) X.A (makeTail "<lambda>" (X.env.qual ++ "<lambda>") params (.expr body) scope X.env dV .none none lpos lpos.line) (EP X pins σ Q) X.xe s := by
  obtain ⟨ps, hP, hF, hi, ht4, ht5⟩ := sa.tb _ hm
  dsimp only at hP hF hi
  have bP : s.heap.BuiltinsAt X.mg P := TB.bm.keeps I.bk
  have hP' : s.heap.get? P = some { cls := .none, data := .fields ps } := I.hok P _ hP
  have finish : ∀ {T : Wd} {pm ctv : Value} {c' : Addr} {h' : Heap} {tk : Nat}, Stp S T → Sta X.K T m → LamD T.F (LamTab.tab k) dV → T.F c' = some (CodeO c' (X.env.qual ++ "<lambda>")) → Inv X pins σ T.H { s with heap := h', toks := tk } →
      EP X pins σ Q (.ref h'.objs.size) { s with heap := h'.push (lamObj (X.env.qual ++ "<lambda>") params body scope (cloFrom X.env.cells scope.names []) pm (.ref c') ctv dV), toks := tk } := fun {T pm ctv c' h' tk} st saT hdT hc I1 => by
    have nf : T.H h'.objs.size = none := I1.hok.fresh (Nat.le_refl _)
    generalize ho : lamObj (X.env.qual ++ "<lambda>") params body scope (cloFrom X.env.cells scope.names []) pm (.ref c') ctv dV = o
    have I2 : Inv X pins σ (upd T.H h'.objs.size (pinO h'.objs.size o)) { s with heap := h'.push o, toks := tk } :=
      I1.laid (t' := tk) (a := h'.objs.size) (o := pinO h'.objs.size o) (h' := h'.push o) (fun b u z => Heap.get?_push_of_some _ z) (Nat.le_refl _) (pinO_ok (Heap.get?_push_size h' (by rw [← ho]; rfl)))
    have st2 := Stp.new saT (o := pinO h'.objs.size o) nf
    have sa2 := saT.new (o := pinO h'.objs.size o) nf
    refine ⟨.ref h'.objs.size, _, I2, rfl, Post.ok p (st.trans st2) sa2 (Rep.lam (lam_at I.ok hfree ht (by rw [ho]; exact upd_same) ?_ (st2.ext _ _ hc)))⟩
    rcases hdT with h | ⟨Tt, us, k1, k2, k3⟩
    · exact .inl h
    · exact .inr ⟨Tt, us, k1, st2.ext _ _ k2, k3⟩
  cases hc : codeAmong lpos ps.toList with
  | none =>
    refine lam_tail (mg := X.mg) (c := c) (P := P) (ps := ps) (closure_ok fun y hy e => (lam_has I.ok hfree y hy e).2) I.ok.glob (I.mod.glob.keeps I.bk) hcode (TB.code.keeps I.bk) hP' ht4 hc TB.gP bP fun c' ctv h' tk hx hge hlt hrec htb => ?_
    obtain ⟨c2, oc, vs, t, e2, hoc, hdc, hv⟩ := hrec
    cases e2
    have nC : S.H c' = none := I.hok.fresh hge
    have eL : (ps ++ #[rawInt lpos.line, rawInt lpos.col, .ref c']).toList = ps.toList ++ [rawInt lpos.line, rawInt lpos.col, .ref c'] := by simp
    obtain ⟨st1, sa1⟩ := tabled_ok (more := #[rawInt lpos.line, rawInt lpos.col, .ref c']) (q := X.env.qual ++ "<lambda>") sa hP hF hi nC hu (by rw [eL]; exact PySem.TriplesOk_snoc _ _ _ _ ht4) (fun p' cv hcv => by
      rw [eL] at hcv
      exact LamX.among_app _ ht4 hcv)
    have I1 := LamX.inv_table (t' := tk) (q := X.env.qual ++ "<lambda>") (more := #[rawInt lpos.line, rawInt lpos.col, .ref c']) (h' := h') I hP (fun b o hb e => hx b o hb e) htb hge ⟨oc, vs, t, hoc, hdc, hv⟩
    have hdT : LamD (S.tabled P c' (X.env.qual ++ "<lambda>") (ps ++ #[rawInt lpos.line, rawInt lpos.col, .ref c'])).F (LamTab.tab k) dV := by
      rcases hd with h | ⟨Tt, us, k1, k2, k3⟩
      · exact .inl h
      · exact .inr ⟨Tt, us, k1, st1.ext _ _ k2, k3⟩
    exact finish st1 sa1 hdT (by show upd S.F c' _ c' = _; rw [upd_same]) I1
  | some cv =>
    obtain ⟨c', e, hco⟩ := ht5 lpos cv hc
    subst e
    refine lam_tailHit (mg := X.mg) (c := c) (P := P) (ps := ps) (closure_ok fun y hy e => (lam_has I.ok hfree y hy e).2) I.ok.glob (I.mod.glob.keeps I.bk) hcode (TB.code.keeps I.bk) hP' ht4 hc bP fun ctv h' tk hx hsz => ?_
    have I1 : Inv X pins σ S.H { s with heap := h', toks := tk } := I.kept fun b o e => hx b o e
    exact finish (Stp.refl S) sa hd hco I1
theorem pd_lam0 (hcode : X.env.code = .ref c) (TB : TabB X.base X.mg c P) (hm : (P, X.env.qual ++ "<lambda>") ∈ LamTab.tbls X.K) (hu : ∀ p ∈ LamTab.tbls X.K, p.1 = P → p.2 = X.env.qual ++ "<lambda>")
    (ht : LamTab.tab k = ⟨X.env.qual ++ "<lambda>", params, body, scope, pn, [], free⟩) (hfree : lamFree X.env.scope scope free = true) (hdef : defaultsOf params X.env = ([], []) := by rfl) :
    PDE X (.Lambda params body scope lpos) (dLam k (cloFrom X.env.cells scope.names [])) := by
  intro S r m σ Q sa re p pins s I
  refine PySem.W.kla_eval hdef ?_
  rw [makeFunction_eq]
  simp only [List.zip_nil_right, List.filterMap_nil, List.isEmpty_nil, if_true, pure_bind]
  exact lam_run hcode TB hm hu ht hfree I sa (.inl ⟨by rw [ht], rfl⟩) p
theorem pd_lam1 {i : Int} {j : Nat} {cpos : Pos} (hcode : X.env.code = .ref c) (TB : TabB X.base X.mg c P) (hm : (P, X.env.qual ++ "<lambda>") ∈ LamTab.tbls X.K) (hu : ∀ p ∈ LamTab.tbls X.K, p.1 = P → p.2 = X.env.qual ++ "<lambda>")
    (ht : LamTab.tab k = ⟨X.env.qual ++ "<lambda>", params, body, scope, pn, [i], free⟩) (hfree : lamFree X.env.scope scope free = true) (hdef : defaultsOf params X.env = ([eval (.Constant (.int i) j cpos) X.env], []) := by rfl) :
    PDE X (.Lambda params body scope lpos) (dLam k (cloFrom X.env.cells scope.names [])) := by
  intro S r m σ Q sa re p pins s I
  rw [arm_eval_Lambda, hdef]
  show wpAny _ _ (do let dv ← evalAll [eval (.Constant (.int i) j cpos) X.env]; let kdv ← holding dv (evalAllOpt []); makeFunction "<lambda>" (X.env.qual ++ "<lambda>") params (.expr body) scope X.env dv kdv [] lpos lpos.line) _ _ _
  refine wpAny_bind (wpAny_evalAll_cons (thn (pe_int.run pins s σ S.H (fun v H => v = .int i ∧ H = S.H) I ⟨rfl, rfl⟩) fun u s1 ⟨v, H1, I1, r1, e1, e2⟩ => ?_))
  subst e1 e2
  refine wpAny_evalAll_nil (wpAny_bind (wpAny_holding (wpAny_pure ?_)))
  rw [makeFunction_eq]
  simp only [List.zip_nil_right, List.filterMap_nil, List.isEmpty_nil, List.isEmpty_cons, Bool.false_eq_true, if_false, if_true, pure_bind]
  refine wpAny_bind (wpAny_newTextTuple ?_)
  obtain ⟨hp, g, d, t, os⟩ := s1
  have nT : S.H hp.objs.size = none := I1.hok.fresh (Nat.le_refl _)
  have I2 : Inv X pins σ (upd S.H hp.objs.size (pinO hp.objs.size { cls := .type "tuple", data := .seq [u].toArray })) ⟨hp.push { cls := .type "tuple", data := .seq [u].toArray }, g, d, t, os⟩ :=
    I1.laid (t' := t) (a := hp.objs.size) (o := pinO hp.objs.size { cls := .type "tuple", data := .seq [u].toArray }) (h' := hp.push { cls := .type "tuple", data := .seq [u].toArray }) (fun b u z => Heap.get?_push_of_some _ z) (Nat.le_refl _) (pinO_ok (Heap.get?_push_size hp rfl))
  have st2 := Stp.new sa (o := pinO hp.objs.size { cls := .type "tuple", data := .seq [u].toArray }) nT
  have sa2 := sa.new (o := pinO hp.objs.size { cls := .type "tuple", data := .seq [u].toArray }) nT
  exact lam_run (S := S.new hp.objs.size (pinO hp.objs.size { cls := .type "tuple", data := .seq [u].toArray })) hcode TB hm hu ht hfree I2 sa2 (.inr ⟨hp.objs.size, [u], rfl, upd_same, by rw [ht]; exact .cons r1 .nil⟩) (Post.step (r := Res.ok (D.lam k (cloFrom X.env.cells scope.names [])) m) st2 p)
end
end DL

set_option maxHeartbeats 4000000
/-! Lambdas handed on and called: worlds with and without a maker's cells. -/
namespace DL
open PySem PySem.Spec PyProof.Rows L2
open LamX (CodeO TabB)
variable [LamTab]
open Classical in
/-- without what stands at Z -/
noncomputable def remZ (Z : Addr → Prop) (F : Hp) : Hp := fun b => if Z b then none else F b
open Classical in
/-- A at Z, B elsewhere -/
noncomputable def ovZ (Z : Addr → Prop) (A B : Hp) : Hp := fun b => if Z b then A b else B b
section
variable {Z : Addr → Prop} {F A B : Hp} {b : Addr}
theorem remZ_in (h : Z b) : remZ Z F b = none := if_pos h
theorem remZ_out (h : ¬ Z b) : remZ Z F b = F b := if_neg h
theorem ovZ_in (h : Z b) : ovZ Z A B b = A b := if_pos h
theorem ovZ_out (h : ¬ Z b) : ovZ Z A B b = B b := if_neg h
theorem remZ_some {o : HO} (h : remZ Z F b = some o) : ¬ Z b ∧ F b = some o := by
  by_cases z : Z b
  · rw [remZ_in z] at h; cases h
  · rw [remZ_out z] at h; exact ⟨z, h⟩
end
/-- at b a cell stands for good -/
def IsPin (F : Hp) (b : Addr) : Prop := ∃ (oc : Obj) (u : Value), F b = some (pinO b oc) ∧ oc.data = .cell (some u)
noncomputable def Wd.rem (S : Wd) (Z : Addr → Prop) : Wd := ⟨S.i, remZ Z S.F, remZ Z S.H⟩
section
variable {K : PySem.W.Frag} {i : List Addr} {F : Hp} {Z : Addr → Prop} {n : Nat}
theorem pin_not {b : Addr} (h : ∀ b, Z b → IsPin F b) {o : HO} (e : F b = some o) (ho : ∀ φ, o ≠ .ext φ) : ¬ Z b := fun z => by
  obtain ⟨oc, u, q, _⟩ := h b z
  rw [e] at q
  exact ho _ (Option.some.inj q)
mutual
theorem Rep.remZ (h : ∀ b, Z b → IsPin F b) : ∀ {d : D} {v : V}, Rep K i F d v → below n d = true → Rep K i (remZ Z F) d v
  | _, _, .non, _ => .non
  | _, _, .bl b, _ => .bl b
  | _, _, .int i, _ => .int i
  | _, _, .str x, _ => .str x
  | _, _, .tup h1 r, hb => .tup (by
      rcases h1 with (h1 | ⟨o, h1⟩) | h1
      · exact .inl (.inl ((remZ_out (pin_not h h1 fun φ => nofun)).trans h1))
      · exact .inl (.inr ⟨o, (remZ_out (pin_not h h1 fun φ => nofun)).trans h1⟩)
      · exact .inr h1) (Reps.remZ h r (by unfold below at hb; exact hb))
  | _, _, .lst h1 r, hb => .lst (by
      rcases h1 with (h1 | ⟨o, h1⟩) | h1
      · exact .inl (.inl ((remZ_out (pin_not h h1 fun φ => nofun)).trans h1))
      · exact .inl (.inr ⟨o, (remZ_out (pin_not h h1 fun φ => nofun)).trans h1⟩)
      · exact .inr h1) (Reps.remZ h r (by unfold below at hb; exact hb))
  | _, _, .obj h1 hn r, hb => .obj ((remZ_out (pin_not h h1 fun φ => nofun)).trans h1) hn (Reps.remZ h r (by unfold below at hb; exact hb))
  | _, _, .loc h1, _ => .loc h1
  | _, _, .val v, _ => .val v
  | _, _, .xob _ _ _, hb => by simp [below] at hb
  | _, _, .lam _, hb => by simp [below] at hb
  | _, _, .clo _ _ _, hb => by simp [below] at hb
theorem Reps.remZ (h : ∀ b, Z b → IsPin F b) : ∀ {d : List D} {v : List V}, Reps K i F d v → belows n d = true → Reps K i (remZ Z F) d v
  | _, _, .nil, _ => .nil
  | _, _, .cons h1 r, hb => by
    unfold belows at hb
    obtain ⟨h2, h3⟩ := Bool.and_eq_true_iff.mp hb
    exact .cons (Rep.remZ h h1 h2) (Reps.remZ h r h3)
end
end
section
variable {P : Program} {w : World} {K : PySem.W.Frag} {S T : Wd} {m : Mu} {Z : Addr → Prop} {h : Heap}
theorem pin_track (sa : Sta K S m) (hz : ∀ b, Z b → IsPin S.F b) {b : Addr} (z : Z b) : ∃ (oc : Obj) (u : Value), S.H b = some (pinO b oc) ∧ oc.data = .cell (some u) := by
  obtain ⟨oc, u, e, d⟩ := hz b z
  exact ⟨oc, u, sa.sub _ _ e, d⟩
theorem pin_code (hok : HOk P w S.H h) (sa : Sta K S m) (hz : ∀ b, Z b → IsPin S.F b) {c : Addr} {q : Str} (e : S.F c = some (CodeO c q)) : ¬ Z c := fun z => by
  obtain ⟨oc, u, e1, d⟩ := hz c z
  have h1 := (hok c _ (sa.sub _ _ e1)).1
  obtain ⟨o2, vs, t, h2, d2, _⟩ := (hok c _ (sa.sub _ _ e)).1
  rw [show h.get? c = some oc from h1] at h2
  cases h2
  rw [d] at d2
  cases d2
theorem rem_sta (sa : Sta K S m) (cl : Cl m) (hok : HOk P w S.H h) (hz : ∀ b, Z b → IsPin S.F b) : Sta K (S.rem Z) m := by
  have nz : ∀ a ∈ S.i, ¬ Z a := fun a ha z => by
    obtain ⟨oc, u, e, _⟩ := hz a z
    rw [sa.dis a ha] at e
    cases e
  refine ⟨sa.nd, sa.len, fun a o e => ?_, fun a ha => ?_, fun a ha => ?_, fun n a o h1 h2 => ?_, fun q hq => ?_⟩
  · obtain ⟨z, e⟩ := remZ_some e
    exact (remZ_out z).trans (sa.sub _ _ e)
  · exact (remZ_out (nz a ha)).trans (sa.dis a ha)
  · obtain ⟨o, e⟩ := sa.tr a ha
    exact ⟨o, (remZ_out (nz a ha)).trans e⟩
  · have ha := List.mem_of_getElem? h1
    have q := sa.ok n a o h1 h2
    have hb := cl o (List.mem_of_getElem? h2)
    have eH : (S.rem Z).H a = S.H a := remZ_out (nz a ha)
    cases o with
    | lst ds => obtain ⟨xs, q1, q2⟩ := q; exact ⟨xs, eH.trans q1, q2.remZ hz hb⟩
    | ins C fs => obtain ⟨dx, vs, q1, q2⟩ := q; exact ⟨dx, vs, eH.trans q1, RepF.join q2.split.1 (q2.split.2.remZ hz hb)⟩
    | exo C d =>
      cases d with
      | none => exact (show (S.rem Z).H a = _ from eH.trans q)
      | some k => obtain ⟨dx, q1, q2⟩ := q; exact ⟨dx, q1, eH.trans q2⟩
    | exd fs => obtain ⟨vs, q1, q2⟩ := q; exact ⟨vs, eH.trans q1, RepF.join q2.split.1 (q2.split.2.remZ hz hb)⟩
    | dik kvs => obtain ⟨vs, q1, q0, q2⟩ := q; exact ⟨vs, eH.trans q1, q0, q2.remZ hz hb⟩
    | dit kvs => obtain ⟨vs, q1, q0, q2⟩ := q; exact ⟨vs, eH.trans q1, q0, q2.remZ hz hb⟩
  · obtain ⟨ps, t1, t2, t3, t4, t5⟩ := sa.tb q hq
    have z : ¬ Z q.1 := fun z => by
      obtain ⟨oc, u, e, _⟩ := hz _ z
      rw [t2] at e
      cases e
    exact ⟨ps, (remZ_out z).trans t1, (remZ_out z).trans t2, t3, t4, fun pos cv hc => let ⟨c, c1, c2⟩ := t5 pos cv hc; ⟨c, c1, (remZ_out (pin_code hok sa hz c2)).trans c2⟩⟩
theorem rem_hok (hok : HOk P w S.H h) (sa : Sta K S m) (hz : ∀ b, Z b → IsPin S.F b) : HOk P w (S.rem Z).H h := fun b o e => by
  obtain ⟨z, e⟩ := remZ_some e
  have out : ∀ c u, S.H c = some u → (∀ φ, u ≠ .ext φ) → (S.rem Z).H c = some u := fun c u q n => (remZ_out (fun z => by
    obtain ⟨oc, v, q2, _⟩ := pin_track sa hz z
    rw [q] at q2
    exact n _ (Option.some.inj q2))).trans q
  exact (hok b o e).stay (fun c v _ q => q) (fun c q => out _ _ q fun φ => nofun) fun c xs q => out _ _ q fun φ => nofun
/-! ### a lambda's call: its cells out, then in again -/
/-- T2, reached from S without Z, with S's cells again -/
noncomputable def backW (Z : Addr → Prop) (S T2 : Wd) : Wd := ⟨T2.i, ovZ Z S.F T2.F, ovZ Z S.H T2.H⟩
variable {T2 : Wd} {m2 : Mu}
theorem back_stp (sa : Sta K S m) (hz : ∀ b, Z b → IsPin S.F b) (st : Stp (S.rem Z) T2) : Stp S (backW Z S T2) := by
  have so : ∀ {b}, Z b → ∃ o, S.H b = some o := fun {b} z => let ⟨oc, u, e, _⟩ := pin_track sa hz z; ⟨_, e⟩
  refine ⟨st.pre, fun a o e => ?_, fun a o hn h1 h2 h3 => ?_, fun a e => ?_⟩
  · by_cases z : Z a
    · exact (ovZ_in z).trans e
    · exact (ovZ_out z).trans (st.ext _ _ ((remZ_out z).trans e))
  · have z : ¬ Z a := fun z => by
      obtain ⟨oc, u, e, _⟩ := hz a z
      rw [h2] at e
      cases e
    obtain ⟨k1, k2, k3⟩ := st.frame a o hn ((remZ_out z).trans h1) ((remZ_out z).trans h2) h3
    exact ⟨(ovZ_out z).trans k1, (ovZ_out z).trans k2, k3⟩
  · by_cases z : Z a
    · exact ((ovZ_in z).symm.trans e)
    · have e2 : T2.H a = none := (ovZ_out z).symm.trans e
      exact (remZ_out z).symm.trans (st.old a e2)
theorem back_ext (hn : ∀ b, Z b → T2.H b = none) (sa2 : Sta K T2 m2) : Ext T2.F (backW Z S T2).F := fun a o e => (ovZ_out (fun z => by
  have := sa2.sub _ _ e
  rw [hn a z] at this
  cases this)).trans e
theorem back_sta (sa : Sta K S m) (hz : ∀ b, Z b → IsPin S.F b) (sa2 : Sta K T2 m2) (hn : ∀ b, Z b → T2.H b = none) : Sta K (backW Z S T2) m2 := by
  have nz : ∀ a o, T2.H a = some o → ¬ Z a := fun a o e z => by rw [hn a z] at e; cases e
  have nzi : ∀ a ∈ T2.i, ¬ Z a := fun a ha => let ⟨o, e⟩ := sa2.tr a ha; nz a o e
  have ex : Ext T2.F (backW Z S T2).F := back_ext hn sa2
  refine ⟨sa2.nd, sa2.len, fun a o e => ?_, fun a ha => ?_, fun a ha => ?_, fun n a o h1 h2 => ?_, fun q hq => ?_⟩
  · by_cases z : Z a
    · exact (ovZ_in z).trans (sa.sub _ _ ((ovZ_in z).symm.trans e))
    · exact (ovZ_out z).trans (sa2.sub _ _ ((ovZ_out z).symm.trans e))
  · exact (ovZ_out (nzi a ha)).trans (sa2.dis a ha)
  · obtain ⟨o, e⟩ := sa2.tr a ha
    exact ⟨o, (ovZ_out (nz _ _ e)).trans e⟩
  · have ha := List.mem_of_getElem? h1
    have q := sa2.ok n a o h1 h2
    have eH : (backW Z S T2).H a = T2.H a := ovZ_out (nzi a ha)
    cases o with
    | lst ds => obtain ⟨xs, q1, q2⟩ := q; exact ⟨xs, eH.trans q1, q2.mono (List.prefix_refl _) ex⟩
    | ins C fs => obtain ⟨dx, vs, q1, q2⟩ := q; exact ⟨dx, vs, eH.trans q1, q2.mono (List.prefix_refl _) ex⟩
    | exo C d =>
      cases d with
      | none => exact (show (backW Z S T2).H a = _ from eH.trans q)
      | some k => obtain ⟨dx, q1, q2⟩ := q; exact ⟨dx, q1, eH.trans q2⟩
    | exd fs => obtain ⟨vs, q1, q2⟩ := q; exact ⟨vs, eH.trans q1, q2.mono (List.prefix_refl _) ex⟩
    | dik kvs => obtain ⟨vs, q1, q0, q2⟩ := q; exact ⟨vs, eH.trans q1, q0, q2.mono (List.prefix_refl _) ex⟩
    | dit kvs => obtain ⟨vs, q1, q0, q2⟩ := q; exact ⟨vs, eH.trans q1, q0, q2.mono (List.prefix_refl _) ex⟩
  · obtain ⟨ps, t1, t2, t3, t4, t5⟩ := sa2.tb q hq
    have z := nz _ _ t1
    exact ⟨ps, (ovZ_out z).trans t1, (ovZ_out z).trans t2, t3, t4, fun pos cv hc => let ⟨c, c1, c2⟩ := t5 pos cv hc; ⟨c, c1, ex _ _ c2⟩⟩
theorem back_hok {h' : Heap} (hok' : HOk P w T2.H h') (hn : ∀ b, Z b → T2.H b = none) (hk : ∀ b, Z b → ∃ oc : Obj, S.H b = some (pinO b oc) ∧ h'.get? b = some oc) : HOk P w (backW Z S T2).H h' := fun b o e => by
  have nz : ∀ a o, T2.H a = some o → ¬ Z a := fun a o e z => by rw [hn a z] at e; cases e
  by_cases z : Z b
  · obtain ⟨oc, e1, e2⟩ := hk b z
    have e : ovZ Z S.H T2.H b = some o := e
    rw [ovZ_in z, e1] at e
    cases e
    exact pinO_ok e2
  · have e : ovZ Z S.H T2.H b = some o := e
    rw [ovZ_out z] at e
    exact (hok' b o e).stay (fun c v _ q => q) (fun c q => (ovZ_out (nz _ _ q)).trans q) fun c xs q => (ovZ_out (nz _ _ q)).trans q
theorem back_un {fs : List Addr} {h' : Heap} (sa : Sta K S m) (hz : ∀ b, Z b → IsPin S.F b) (un : Un fs [] (S.rem Z).H T2.H h h') : Un fs [] S.H (backW Z S T2).H h h' := by
  have nz : ∀ {b}, S.H b = none → ¬ Z b := fun {b} e z => by
    obtain ⟨oc, u, q, _⟩ := pin_track sa hz z
    rw [e] at q
    cases q
  have nx : ∀ {b o}, S.H b = some o → (∀ φ, o ≠ .ext φ) → ¬ Z b := fun {b o} e n z => by
    obtain ⟨oc, u, q, _⟩ := pin_track sa hz z
    rw [e] at q
    exact n _ (Option.some.inj q)
  refine ⟨fun b o e n => un.keep b o e ((remZ_out (nz n)).trans n), fun b o e n => un.slot b o e ((remZ_out (nz n)).trans n), fun b o e n hx => (ovZ_out (nz n)).trans (un.free b o e ((remZ_out (nz n)).trans n) hx), un.there, fun b xs e => ?_, fun b o u e => ?_, fun b ps e => ?_⟩
  · have z := nx e fun φ => nofun
    exact (ovZ_out z).trans (un.tups b xs ((remZ_out z).trans e))
  · have z := nx e fun φ => nofun
    exact (ovZ_out z).trans (un.frzs b o u ((remZ_out z).trans e))
  · have z := nx e fun φ => nofun
    obtain ⟨more, q⟩ := un.tbls b ps ((remZ_out z).trans e)
    exact ⟨more, (ovZ_out z).trans q⟩
theorem back_ub {fs : List Addr} {B h' : Heap} (sa : Sta K S m) (hz : ∀ b, Z b → IsPin S.F b) (un : UB fs (S.rem Z).H T2.H h B h') : UB fs S.H (backW Z S T2).H h B h' := by
  have nz : ∀ {b}, S.H b = none → ¬ Z b := fun {b} e z => by
    obtain ⟨oc, u, q, _⟩ := pin_track sa hz z
    rw [e] at q
    cases q
  have nx : ∀ {b o}, S.H b = some o → (∀ φ, o ≠ .ext φ) → ¬ Z b := fun {b o} e n z => by
    obtain ⟨oc, u, q, _⟩ := pin_track sa hz z
    rw [e] at q
    exact n _ (Option.some.inj q)
  refine ⟨fun b o e n => un.keep b o e ((remZ_out (nz n)).trans n), un.slot, fun b o e n => (ovZ_out (nz n)).trans (un.free b o e ((remZ_out (nz n)).trans n)), un.there, fun b xs e => ?_, fun b o u e => ?_, fun b ps e => ?_⟩
  · have z := nx e fun φ => nofun
    exact (ovZ_out z).trans (un.tups b xs ((remZ_out z).trans e))
  · have z := nx e fun φ => nofun
    exact (ovZ_out z).trans (un.frzs b o u ((remZ_out z).trans e))
  · have z := nx e fun φ => nofun
    obtain ⟨more, q⟩ := un.tbls b ps ((remZ_out z).trans e)
    exact ⟨more, (ovZ_out z).trans q⟩
end
/-! ### a maker's cells in for a call, then out again -/
section
variable {P : Program} {w : World} {K : PySem.W.Frag} {S T : Wd} {m m2 : Mu} {Z : Addr → Prop} {h h' : Heap} {pf : Hp}
/-- S with the cells pf at Z -/
noncomputable def inW (Z : Addr → Prop) (pf : Hp) (S : Wd) : Wd := ⟨S.i, ovZ Z pf S.F, ovZ Z pf S.H⟩
theorem in_ext (sa : Sta K S m) (hn : ∀ b, Z b → S.H b = none) : Ext S.F (inW Z pf S).F := fun a o e => (ovZ_out (fun z => by
  have := sa.sub _ _ e
  rw [hn a z] at this
  cases this)).trans e
theorem in_sta (sa : Sta K S m) (hn : ∀ b, Z b → S.H b = none) : Sta K (inW Z pf S) m := by
  have nz : ∀ a o, S.H a = some o → ¬ Z a := fun a o e z => by rw [hn a z] at e; cases e
  have nzi : ∀ a ∈ S.i, ¬ Z a := fun a ha => let ⟨o, e⟩ := sa.tr a ha; nz a o e
  have ex : Ext S.F (inW Z pf S).F := in_ext sa hn
  refine ⟨sa.nd, sa.len, fun a o e => ?_, fun a ha => ?_, fun a ha => ?_, fun n a o h1 h2 => ?_, fun q hq => ?_⟩
  · by_cases z : Z a
    · exact (ovZ_in z).trans ((ovZ_in z).symm.trans e)
    · exact (ovZ_out z).trans (sa.sub _ _ ((ovZ_out z).symm.trans e))
  · exact (ovZ_out (nzi a ha)).trans (sa.dis a ha)
  · obtain ⟨o, e⟩ := sa.tr a ha
    exact ⟨o, (ovZ_out (nz _ _ e)).trans e⟩
  · have ha := List.mem_of_getElem? h1
    have q := sa.ok n a o h1 h2
    have eH : (inW Z pf S).H a = S.H a := ovZ_out (nzi a ha)
    cases o with
    | lst ds => obtain ⟨xs, q1, q2⟩ := q; exact ⟨xs, eH.trans q1, q2.mono (List.prefix_refl _) ex⟩
    | ins C fs => obtain ⟨dx, vs, q1, q2⟩ := q; exact ⟨dx, vs, eH.trans q1, q2.mono (List.prefix_refl _) ex⟩
    | exo C d =>
      cases d with
      | none => exact (show (inW Z pf S).H a = _ from eH.trans q)
      | some k => obtain ⟨dx, q1, q2⟩ := q; exact ⟨dx, q1, eH.trans q2⟩
    | exd fs => obtain ⟨vs, q1, q2⟩ := q; exact ⟨vs, eH.trans q1, q2.mono (List.prefix_refl _) ex⟩
    | dik kvs => obtain ⟨vs, q1, q0, q2⟩ := q; exact ⟨vs, eH.trans q1, q0, q2.mono (List.prefix_refl _) ex⟩
    | dit kvs => obtain ⟨vs, q1, q0, q2⟩ := q; exact ⟨vs, eH.trans q1, q0, q2.mono (List.prefix_refl _) ex⟩
  · obtain ⟨ps, t1, t2, t3, t4, t5⟩ := sa.tb q hq
    have z := nz _ _ t1
    exact ⟨ps, (ovZ_out z).trans t1, (ovZ_out z).trans t2, t3, t4, fun pos cv hc => let ⟨c, c1, c2⟩ := t5 pos cv hc; ⟨c, c1, ex _ _ c2⟩⟩
theorem in_hok (hok : HOk P w S.H h) (hn : ∀ b, Z b → S.H b = none) (hp : ∀ b, Z b → ∃ oc : Obj, pf b = some (pinO b oc) ∧ h.get? b = some oc) : HOk P w (inW Z pf S).H h := fun b o e => by
  have nz : ∀ a o, S.H a = some o → ¬ Z a := fun a o e z => by rw [hn a z] at e; cases e
  by_cases z : Z b
  · obtain ⟨oc, e1, e2⟩ := hp b z
    have e : ovZ Z pf S.H b = some o := e
    rw [ovZ_in z, e1] at e
    cases e
    exact pinO_ok e2
  · have e : ovZ Z pf S.H b = some o := e
    rw [ovZ_out z] at e
    exact (hok b o e).stay (fun c v _ q => q) (fun c q => (ovZ_out (nz _ _ q)).trans q) fun c xs q => (ovZ_out (nz _ _ q)).trans q
theorem out_stp (sa : Sta K S m) (hn : ∀ b, Z b → S.H b = none) (hp : ∀ b, Z b → IsPin pf b) (st : Stp (inW Z pf S) T) : Stp S (T.rem Z) := by
  refine ⟨st.pre, fun a o e => ?_, fun a o hno h1 h2 h3 => ?_, fun a e => ?_⟩
  · have z : ¬ Z a := fun z => by
      have := sa.sub _ _ e
      rw [hn a z] at this
      cases this
    exact (remZ_out z).trans (st.ext _ _ ((ovZ_out z).trans e))
  · have z : ¬ Z a := fun z => by rw [hn a z] at h1; cases h1
    obtain ⟨k1, k2, k3⟩ := st.frame a o hno ((ovZ_out z).trans h1) ((ovZ_out z).trans h2) h3
    exact ⟨(remZ_out z).trans k1, (remZ_out z).trans k2, k3⟩
  · by_cases z : Z a
    · exact hn a z
    · exact (ovZ_out z).symm.trans (st.old a ((remZ_out z).symm.trans e))
theorem out_un {fs : List Addr} (hn : ∀ b, Z b → S.H b = none) (hp : ∀ b, Z b → ∃ oc : Obj, pf b = some (pinO b oc) ∧ h.get? b = some oc) (hT : ∀ b, Z b → T.H b = pf b) (hok' : HOk P w T.H h') (un : Un fs [] (inW Z pf S).H T.H h h') : Un fs [] S.H (T.rem Z).H h h' := by
  have at_ : ∀ {b o}, Z b → h.get? b = some o → h'.get? b = some o := fun {b o} z e => by
    obtain ⟨oc, e1, e2⟩ := hp b z
    rw [e] at e2
    cases e2
    exact (hok' b _ ((hT b z).trans e1)).1
  refine ⟨fun b o e n hb hx => ?_, fun b o e n hb hx => ?_, fun b o e n hx => ?_, un.there, fun b xs e => ?_, fun b o u e => ?_, fun b ps e => ?_⟩
  · by_cases z : Z b
    · exact at_ z e
    · exact un.keep b o e ((ovZ_out z).trans n) hb hx
  · by_cases z : Z b
    · exact ⟨o.slots, at_ z e⟩
    · exact un.slot b o e ((ovZ_out z).trans n) hb hx
  · by_cases z : Z b
    · exact remZ_in z
    · exact (remZ_out z).trans (un.free b o e ((ovZ_out z).trans n) hx)
  · have z : ¬ Z b := fun z => by rw [hn b z] at e; cases e
    exact (remZ_out z).trans (un.tups b xs ((ovZ_out z).trans e))
  · have z : ¬ Z b := fun z => by rw [hn b z] at e; cases e
    exact (remZ_out z).trans (un.frzs b o u ((ovZ_out z).trans e))
  · have z : ¬ Z b := fun z => by rw [hn b z] at e; cases e
    obtain ⟨more, q⟩ := un.tbls b ps ((ovZ_out z).trans e)
    exact ⟨more, (remZ_out z).trans q⟩
theorem out_ub {fs : List Addr} {B : Heap} (hn : ∀ b, Z b → S.H b = none) (hp : ∀ b, Z b → ∃ oc : Obj, pf b = some (pinO b oc) ∧ h.get? b = some oc) (hT : ∀ b, Z b → T.H b = pf b) (hok' : HOk P w T.H B) (un : UB fs (inW Z pf S).H T.H h B h') : UB fs S.H (T.rem Z).H h B h' := by
  have at_ : ∀ {b o}, Z b → h.get? b = some o → B.get? b = some o := fun {b o} z e => by
    obtain ⟨oc, e1, e2⟩ := hp b z
    rw [e] at e2
    cases e2
    exact (hok' b _ ((hT b z).trans e1)).1
  refine ⟨fun b o e n hb => ?_, un.slot, fun b o e n => ?_, un.there, fun b xs e => ?_, fun b o u e => ?_, fun b ps e => ?_⟩
  · by_cases z : Z b
    · exact at_ z e
    · exact un.keep b o e ((ovZ_out z).trans n) hb
  · by_cases z : Z b
    · exact remZ_in z
    · exact (remZ_out z).trans (un.free b o e ((ovZ_out z).trans n))
  · have z : ¬ Z b := fun z => by rw [hn b z] at e; cases e
    exact (remZ_out z).trans (un.tups b xs ((ovZ_out z).trans e))
  · have z : ¬ Z b := fun z => by rw [hn b z] at e; cases e
    exact (remZ_out z).trans (un.frzs b o u ((ovZ_out z).trans e))
  · have z : ¬ Z b := fun z => by rw [hn b z] at e; cases e
    obtain ⟨more, q⟩ := un.tbls b ps ((ovZ_out z).trans e)
    exact ⟨more, (remZ_out z).trans q⟩
end
end DL

set_option maxHeartbeats 4000000
/-! Lambdas called. -/
namespace DL
open PySem PySem.Spec PyProof.Rows L2
open LamX (CodeO TabB)
variable [LamTab]
/-- the defaults of a lambda in the heap -/
def LamDH (h : Heap) (t : LamT) (dV : Value) (ud : List Value) : Prop := (t.dds = [] ∧ dV = .none ∧ ud = []) ∨ ∃ T : Addr, dV = .ref T ∧ h.get? T = some { cls := .type "tuple", data := .seq ud.toArray } ∧ Vals (t.dds.map V.int) ud
/-- how a lambda binds -/
def LBind (t : LamT) : Prop := ∀ (q : Str) (body : Expr) (scope : Scope) (g : List (Str × Addr)) (pm cv ctv : Value) (us : List Value),
  (t.dds = [] → us.length = t.ps.length → bindArgs { name := "<lambda>", qualname := q, params := t.params, body := .expr body, scope, globals := mainGlobals, closure := g, defaults := .none, kwdefaults := .none, doc := .none, pyModule := pm, annotations := none, code := cv, closureTuple := ctv, builtins := builtinsNs } ⟨us, []⟩ = pure (t.ps.zip us)) ∧
  ∀ (T : Addr) (ud : List Value), ud.length = t.dds.length → us.length + ud.length = t.ps.length → ∃ k : Option (Array Value) → Sem (List (Str × Value)), bindArgs { name := "<lambda>", qualname := q, params := t.params, body := .expr body, scope, globals := mainGlobals, closure := g, defaults := .ref T, kwdefaults := .none, doc := .none, pyModule := pm, annotations := none, code := cv, closureTuple := ctv, builtins := builtinsNs } ⟨us, []⟩ = seqItems? (.ref T) >>= k ∧ k (some ud.toArray) = pure (t.ps.zip (us ++ ud))
/-- its names -/
def lamScB (t : LamT) : Bool := decide (t.scope.kind = .function) && (!t.scope.isCoroutine && (!t.scope.isGenerator && (decide ((t.ps ++ t.free).Nodup) && (t.ps.all (fun y => decide (t.scope.names.lookup y = some .local)) && t.scope.names.all fun y => !decide (y.2 = .cell) && (!decide (y.2 = .local) || decide (y.1 ∈ t.ps))))))
structure LamSc (t : LamT) : Prop where
  kind : t.scope.kind = .function
  co : t.scope.isCoroutine = false
  gen : t.scope.isGenerator = false
  nd : (t.ps ++ t.free).Nodup
  par : ∀ y ∈ t.ps, t.scope.names.lookup y = some .local
  nocell : ∀ y ∈ t.scope.names, y.2 ≠ .cell
  loc : ∀ y ∈ t.scope.names, y.2 = .local → y.1 ∈ t.ps
theorem lamSc_by {t : LamT} (h : lamScB t = true) : LamSc t := by
  unfold lamScB at h
  simp only [Bool.and_eq_true, Bool.or_eq_true, Bool.not_eq_true', decide_eq_true_eq, decide_eq_false_iff_not, List.all_eq_true] at h
  obtain ⟨h1, h2, h3, h4, h5, h6⟩ := h
  exact ⟨h1, h2, h3, h4, h5, fun y hy => (h6 y hy).1, fun y hy e => (h6 y hy).2.resolve_left fun z => z e⟩
abbrev lamEnvD (t : LamT) (g : List (Str × Addr)) (L f c' : Addr) : Env := PySem.W.envX t.qual t.scope L f (.ref c') g
/-- the context of a lambda's body -/
def lamCxD (P : Program) (w : World) (K : PySem.W.Frag) (mg : Str → Option Value) (base : Heap) (t : LamT) (g : List (Str × Addr)) (f c' : Addr) (A : Around) (outer : List Env) (s : Shared) (H : Hp) (E : XK) : Cx where
  prog := P
  w := w
  K := K
  mg := mg
  base := base
  A := A.deeper (lamEnvD t g s.heap.objs.size f c')
  N := t.ps ++ t.free
  s_0 := s
  H_0 := H
  env := lamEnvD t g s.heap.objs.size f c'
  outer := outer
  stack := lamEnvD t g s.heap.objs.size f c' :: outer
  ex := []
  fn := fun _ => false
  calm := true
  pn := []
  xe := fun e s' => wpAny (model P w) (A.deeper (lamEnvD t g s.heap.objs.size f c')) (leaving (lamEnvD t g s.heap.objs.size f c') e) (fun _ s'' => L2.CX P w outer H s E e s'') (fun e' s'' => L2.CX P w outer H s E e' s'') s'
/-- what a lambda computes: its arguments, its defaults, the values of its free names -/
structure LamOk (P : Program) (w : World) (K : PySem.W.Frag) (mg : Str → Option Value) (base : Heap) (lv k : Nat) (G : DFn) : Prop where
  run : ∀ (A : Around) (outer : List Env) (s : Shared) (f c' : Addr) (g : List (Str × Addr)) (pm ctv dV : Value) (us ud : List Value) (avs fvs : List V) (S : Wd) (m : Mu) (ads fds : List D) (Q : VK) (E : XK),
    Room lv A → Env0 P w K mg base A outer s S.H → s.heap.get? f = some (lamObj (LamTab.tab k).qual (LamTab.tab k).params (LamTab.tab k).body (LamTab.tab k).scope g pm (.ref c') ctv dV) → s.heap.CodeRec (.ref c') (LamTab.tab k).qual →
    LamDH s.heap (LamTab.tab k) dV ud → (∀ y z c, g.lookup y = some c → g.lookup z = some c → y = z) → (∀ y ∈ (LamTab.tab k).scope.names, y.2 = .free → ∃ c, g.lookup y.1 = some c) → (∀ y b, g.lookup y = some b → S.H b = none ∧ ∃ v, s.heap.IsCell b v) →
    (∀ (i : Nat) (y : Str) (v : V), (LamTab.tab k).free[i]? = some y → fvs[i]? = some v → ∃ c u, g.lookup y = some c ∧ s.heap.IsCell c (some u) ∧ RelV v u) →
    Vals avs us → Sta K S m → Reps K S.i S.F ads avs → Reps K S.i S.F fds fvs → ads.length + (LamTab.tab k).dds.length = (LamTab.tab k).ps.length → fds.length = (LamTab.tab k).free.length →
    PostD K S (G (ads ++ ((LamTab.tab k).dds.map D.int ++ fds)) m) Q E → codeAny (model P w) A (.call (.ref f) ⟨us, []⟩) (CR (L2.CX P w) outer P w S.H s Q E) s
theorem reps_int {K : PySem.W.Frag} {i : List Addr} {F : Hp} : ∀ ns : List Int, Reps K i F (ns.map D.int) (ns.map V.int)
  | [] => .nil
  | n :: ns => .cons (.int n) (reps_int ns)
section
variable {P : Program} {w : World} {K : PySem.W.Frag} {mg : Str → Option Value} {base : Heap}
theorem lam_inv {t : LamT} {g : List (Str × Addr)} {f c' : Addr} {A : Around} {outer : List Env} {s : Shared} {H : Hp} {E : XK} {h₁ : Heap} {tk : Nat} {us : List Value} {avs fvs : List V} (S : LamSc t) (hd : A.handled = none) (e0 : Env0 P w K mg base A outer s H)
    (inj : ∀ y z c, g.lookup y = some c → g.lookup z = some c → y = z) (has : ∀ y ∈ t.scope.names, y.2 = .free → ∃ c, g.lookup y.1 = some c) (hc : ∀ y b, g.lookup y = some b → H b = none ∧ ∃ v, s.heap.IsCell b v)
    (hf : ∀ (i : Nat) (y : Str) (v : V), t.free[i]? = some y → fvs[i]? = some v → ∃ c u, g.lookup y = some c ∧ s.heap.IsCell c (some u) ∧ RelV v u) (rv : Vals avs us) (hl : avs.length = t.ps.length) (hl2 : fvs.length = t.free.length)
    (hns : h₁.Ns s.heap.objs.size fun x => (t.ps.zip us).reverse.lookup x) (kp : ∀ b o, s.heap.get? b = some o → h₁.get? b = some o) :
    Inv (lamCxD P w K mg base t g f c' A outer s H E) [] ((avs ++ fvs).map some) H { s with heap := h₁, toks := tk } := by
  have noA : ∀ b : Addr, b ∉ (lamCxD P w K mg base t g f c' A outer s H E).ex := fun b z => absurd (show b ∈ ([] : List Addr) from z) (by simp)
  have cellK : ∀ {c : Addr} {v : Option Value}, s.heap.IsCell c v → h₁.IsCell c v := fun {c v} ⟨o, ho, hd⟩ => ⟨o, kp _ _ ho, hd⟩
  have ndP : t.ps.Nodup := S.nd.sublist (List.sublist_append_left _ _)
  have lus : us.length = t.ps.length := by rw [← rv.length]; exact hl
  refine ⟨⟨e0.mod, S.kind, rfl, rfl, Nat.le_refl _, inj, fun y hy => ?_, fun y c z _ => ?_, fun _ => hd, Around.frames_deeper e0.frames, .inr ⟨rfl, rfl⟩, fun b z => absurd z (noA b), e0.bs, e0.bsz, fun b _ _ => noA b, fun b z => absurd z (noA b), e0.funs, e0.frf⟩,
    rfl, e0.bare, Un.kept kp, ⟨_, hns, fun i y v e1 e2 e3 => ?_⟩, fun y c e => ?_, e0.hok.fresh (Nat.le_refl _), fun y c e => (hc y c e).1, fun q hq => absurd (show q ∈ ([] : List (Addr × Obj)) ++ [] from hq) (by simp), e0.hok.kept kp, ?_⟩
  · have hy : t.scope.names.lookup y = some .cell ∨ t.scope.names.lookup y = some .free := hy
    rcases hy with hy | hy
    · exact absurd rfl (S.nocell _ (PySem.mem_of_lookup hy))
    · exact has _ (PySem.mem_of_lookup hy) rfl
  · cases (show false = true from z)
  · have e1 : (t.ps ++ t.free)[i]? = some y := e1
    have e2 : ((avs ++ fvs).map some)[i]? = some (some v) := e2
    have e3 : Vis t.scope y := e3
    rw [List.getElem?_map] at e2
    cases q : (avs ++ fvs)[i]? with
    | none => rw [q] at e2; cases e2
    | some v' =>
      rw [q] at e2
      cases e2
      by_cases hi : i < t.ps.length
      · rw [List.getElem?_append_left hi] at e1
        rw [List.getElem?_append_left (by rw [hl]; exact hi)] at q
        obtain ⟨u, hu, ru⟩ := rv.get q
        refine ⟨u, ru, .inl ⟨S.par y (List.mem_of_getElem? e1), rev_zip ndP lus.symm e1 hu⟩⟩
      · have hi : t.ps.length ≤ i := Nat.le_of_not_lt hi
        rw [List.getElem?_append_right hi] at e1
        rw [List.getElem?_append_right (by rw [hl]; exact hi), hl] at q
        obtain ⟨c, u, h1, h2, h3⟩ := hf _ y v e1 q
        have hfree : t.scope.names.lookup y = some .free := by
          rcases e3 with k | k | k
          · have := S.loc _ (PySem.mem_of_lookup k) rfl
            exact absurd (List.mem_of_getElem? e1) (fun z => (List.nodup_append.mp S.nd).2.2 y this y z rfl)
          · exact absurd rfl (S.nocell _ (PySem.mem_of_lookup k))
          · exact k
        exact ⟨u, h3, .inr ⟨.inr hfree, c, h1, cellK h2⟩⟩
  · obtain ⟨v, z⟩ := (hc y c e).2
    exact ⟨v, cellK z⟩
  · show _ = (t.ps ++ t.free).length
    rw [List.length_map, List.length_append, List.length_append, hl, hl2]
theorem lamOk_of {lv k : Nat} {t : DE} (S : lamScB (LamTab.tab k) = true) (hb : LBind (LamTab.tab k))
    (h : ∀ (g : List (Str × Addr)) (f c' : Addr) (A : Around) (outer : List Env) (s : Shared) (H : Hp) (E : XK), Room lv (A.deeper (lamEnvD (LamTab.tab k) g s.heap.objs.size f c')) → PDE (lamCxD P w K mg base (LamTab.tab k) g f c' A outer s H E) (LamTab.tab k).body t) :
    LamOk P w K mg base (lv + 1) k fun ds m => t (ds.map some) m := by
  have S := lamSc_by S
  refine ⟨fun A outer s f c' g pm ctv dV us ud avs fvs W m ads fds Q E hr e0 ho hcd hdd inj has hc hf rv sa ra rf hl hl2 p => ?_⟩
  have lim : s.heap.NoLimit := e0.mod.nolimit.keeps fun b o e => (e0.bs b o e).1
  refine PySem.W.kla_callFunE hr.depth ho rfl S.co S.gen rfl hcd ?_
  have vd : Vals ((LamTab.tab k).dds.map V.int) ud := by
    rcases hdd with ⟨e1, _, e3⟩ | ⟨_, _, _, e⟩
    · rw [e1, e3]; exact .nil
    · exact e
  have lud : ud.length = (LamTab.tab k).dds.length := by rw [← vd.length]; simp
  have la : us.length = ads.length := by rw [← rv.length, ← ra.len]
  have rest : wpAny (model P w) A.in1 (newFunctionEnv (LamTab.tab k).scope mainGlobals g ((LamTab.tab k).ps.zip (us ++ ud)) ((LamTab.tab k).qual ++ ".<locals>.") (some f) (.ref c') none builtinsNs)
      (fun env s₂ => s₂.heap.NoLimit ∧ codeAny (model P w) A (.expr (LamTab.tab k).body env) (CR (L2.CX P w) outer P w W.H s Q E) s₂) (fun e s' => CR (L2.CX P w) outer P w W.H s Q E (.error e) s') s := by
    refine wpAny_newFunctionEnv S.nocell (fun y hy => S.par _ (List.of_mem_zip hy).1) (fun h₁ hns hsb => ⟨lim.fresh _ hsb, ?_⟩) S.kind
    show codeAny _ _ (.expr (LamTab.tab k).body (lamEnvD (LamTab.tab k) g s.heap.objs.size f c')) _ _
    have kp : ∀ b o, s.heap.get? b = some o → h₁.get? b = some o := fun b o e => hsb.extBut b o (Nat.ne_of_lt (Heap.lt_size e)) (Heap.get?_push_of_some _ e)
    have J := lam_inv (P := P) (w := w) (K := K) (mg := mg) (base := base) (c' := c') (f := f) (E := E) (tk := s.toks + ((LamTab.tab k).ps.zip (us ++ ud)).length) S hr.hd e0 inj has hc hf (rv.append vd)
      (by rw [List.length_append, List.length_map, ← ra.len]; exact hl) (by rw [← rf.len]; exact hl2) hns kp
    have rall : Reps K W.i W.F (ads ++ ((LamTab.tab k).dds.map D.int ++ fds)) (avs ++ ((LamTab.tab k).dds.map V.int ++ fvs)) := ra.append ((reps_int _).append rf)
    have re : RelE K W ((ads ++ ((LamTab.tab k).dds.map D.int ++ fds)).map some) ((avs ++ (LamTab.tab k).dds.map V.int ++ fvs).map some) := by
      rw [List.append_assoc]
      refine ⟨by rw [List.length_map, List.length_map, rall.len], fun i d e => ?_⟩
      rw [List.getElem?_map] at e
      cases q : (ads ++ ((LamTab.tab k).dds.map D.int ++ fds))[i]? with
      | none => rw [q] at e; cases e
      | some d' =>
        rw [q] at e; cases e
        obtain ⟨v, h1, h2⟩ := rall.get q
        exact ⟨v, by rw [List.getElem?_map, h1]; rfl, h2⟩
    have tk : Takes (lamCxD P w K mg base (LamTab.tab k) g f c' A outer s W.H E) (fun cls d _ H => E cls d H) := takes_of rfl rfl rfl rfl
    refine PySem.W.kla_codeExpr (wpAny_mono (h g f c' A outer s W.H E (hr.deeper _) W _ m _ Q sa re ?_ [] _ J) (fun v s' hq => ?_) fun e s' hq => hq)
    · cases q : t ((ads ++ ((LamTab.tab k).dds.map D.int ++ fds)).map some) m with
      | stuck => rw [q] at p; exact p.elim
      | ok d m1 => rw [q] at p; exact p
      | exc C fs m1 => rw [q] at p; exact fun dd vs U st hn sa1 h1 h2 => Fly.of tk (p dd vs U st hn sa1 h1 h2)
    · obtain ⟨w', H', J', rv', q⟩ := hq
      exact ⟨w', H', J'.os, J'.bare, J'.base, J'.hok, rv', q⟩
  rcases hdd with ⟨e1, e2, e3⟩ | ⟨T, e2, eT, _⟩
  · subst e2 e3
    rw [((hb (LamTab.tab k).qual (LamTab.tab k).body (LamTab.tab k).scope g pm (.ref c') ctv us).1 e1 (by rw [la, ← hl, e1]; rfl))]
    rw [List.append_nil] at rest
    exact wpAny_pure rest
  · subst e2
    obtain ⟨kk, b1, b2⟩ := (hb (LamTab.tab k).qual (LamTab.tab k).body (LamTab.tab k).scope g pm (.ref c') ctv us).2 T ud lud (by rw [la, lud]; exact hl)
    rw [b1]
    refine wpAny_bind (wpAny_seqItems eT rfl ?_)
    rw [b2]
    exact wpAny_pure rest
end
/-! ### x(..) where x holds a lambda that was handed on -/
section
variable {X : Cx} {pins : List (Addr × Obj)} {σ : L2.St}
theorem run_clo {lv k : Nat} {G : DFn} {S : Wd} {m : Mu} {s : Shared} {g : List (Str × Addr)} {f : Addr} {vs avs : List V} {us : List Value} {as ds : List D} {Q : VK} (L : LamOk X.prog X.w X.K X.mg X.base lv k G) (hr : Room lv X.A) (I : Inv X pins σ S.H s) (sa : Sta X.K S m) (cl : Cl m)
    (hl : LamAt S.F (LamTab.tab k) g f) (hc : CelAt S.F (LamTab.tab k).free g vs) (rds : Reps X.K S.i S.F ds vs) (bds : belows m.length ds = true) (ras : Reps X.K S.i S.F as avs) (bas : belows m.length as = true) (rv : Vals avs us)
    (l1 : as.length + (LamTab.tab k).dds.length = (LamTab.tab k).ps.length) (l2 : ds.length = (LamTab.tab k).free.length) (p : PostD X.K S (G (as ++ ((LamTab.tab k).dds.map D.int ++ ds)) m) Q (fun c d H => Fly X c d σ H)) :
    wpAny (model X.prog X.w) X.A (call (.ref f) us) (EP X pins σ Q) X.xe s := by
  obtain ⟨o, dV, c', hF, ⟨pm, ctv, ho⟩, hD, hC, inj, has, dom⟩ := hl
  have lvs : vs.length = (LamTab.tab k).free.length := by rw [← rds.len]; exact l2
  generalize hZ : (fun b : Addr => ∃ y, g.lookup y = some b) = Z
  have inZ : ∀ {b}, Z b ↔ ∃ y, g.lookup y = some b := fun {b} => by rw [← hZ]
  have hz : ∀ b, Z b → IsPin S.F b := fun b z => by
    obtain ⟨y, e⟩ := inZ.mp z
    obtain ⟨i, hi⟩ := List.getElem?_of_mem (dom y b e)
    have hi2 : i < vs.length := by rw [lvs]; exact (List.getElem?_eq_some_iff.mp hi).1
    obtain ⟨c, oc, u, e1, e2, e3, _⟩ := hc i y _ hi (List.getElem?_eq_getElem hi2)
    rw [e] at e1
    cases e1
    exact ⟨oc, u, e2, e3⟩
  have sa2 : Sta X.K (S.rem Z) m := rem_sta sa cl I.hok hz
  have hof : s.heap.get? f = some o := (I.hok f _ (sa.sub _ _ hF)).1
  rw [ho] at hof
  have hcd : s.heap.CodeRec (.ref c') (LamTab.tab k).qual := by
    obtain ⟨oc, ws, t, h1, h2, h3⟩ := (I.hok c' _ (sa.sub _ _ hC)).1
    exact ⟨c', oc, ws, t, rfl, h1, h2, h3⟩
  obtain ⟨ud, hdd⟩ : ∃ ud, LamDH s.heap (LamTab.tab k) dV ud := by
    rcases hD with ⟨e1, e2⟩ | ⟨T, ud, e1, e2, e3⟩
    · exact ⟨[], .inl ⟨e1, e2, rfl⟩⟩
    · exact ⟨ud, .inr ⟨T, e1, (I.hok T _ (sa.sub _ _ e2)).1, e3⟩⟩
  have pinS : ∀ b, Z b → ∃ oc : Obj, S.H b = some (pinO b oc) ∧ s.heap.get? b = some oc ∧ b ∉ frs X.stack := fun b z => by
    obtain ⟨oc, u, e, d⟩ := pin_track sa hz z
    refine ⟨oc, e, (I.hok b _ e).1, fun hm => ?_⟩
    rw [I.env0.frf b hm] at e
    cases e
  have e0 : Env0 X.prog X.w X.K X.mg X.base X.A X.stack s (S.rem Z).H := by
    have e := I.env0
    refine ⟨e.frames, e.mod, fun b o q => ⟨(e.bs b o q).1, ?_⟩, e.bsz, e.funs, fun b hb => ?_, rem_hok I.hok sa hz, e.bare⟩
    · by_cases z : Z b
      · exact remZ_in z
      · exact (remZ_out z).trans (e.bs b o q).2
    · by_cases z : Z b
      · exact remZ_in z
      · exact (remZ_out z).trans (e.frf b hb)
  have n2 : ∀ b, Z b → (S.rem Z).H b = none := fun b z => remZ_in z
  -- what is wanted behind the lambda's own call
  have pR : PostD X.K (S.rem Z) (G (as ++ ((LamTab.tab k).dds.map D.int ++ ds)) m)
      (fun v H' => ∃ T2 : Wd, H' = T2.H ∧ ((∀ b, Z b → T2.H b = none) → Q v (backW Z S T2).H))
      (fun c d H' => ∃ T2 : Wd, H' = T2.H ∧ ((∀ b, Z b → T2.H b = none) → Fly X c d σ (backW Z S T2).H)) := by
    cases q : G (as ++ ((LamTab.tab k).dds.map D.int ++ ds)) m with
    | stuck => rw [q] at p; exact p.elim
    | ok d m2 =>
      rw [q] at p
      exact fun v T2 st saT rd => ⟨T2, rfl, fun hn => p v _ (back_stp sa hz st) (back_sta sa hz saT hn) (rd.mono (List.prefix_refl _) (back_ext hn saT))⟩
    | exc C fs m2 =>
      rw [q] at p
      refine fun dd ws T2 st hnd saT h1 h2 => ⟨T2, rfl, fun hn => ?_⟩
      have nz : ¬ Z dd := fun z => by rw [hn dd z] at h1; cases h1
      exact p dd ws _ (back_stp sa hz st) ((remZ_out nz).symm.trans hnd) (back_sta sa hz saT hn) ((ovZ_out nz).trans h1) (h2.mono (List.prefix_refl _) (back_ext hn saT))
  have cf : ∀ y b, g.lookup y = some b → (S.rem Z).H b = none ∧ ∃ v, s.heap.IsCell b v := fun y b e => by
    have z : Z b := inZ.mpr ⟨y, e⟩
    obtain ⟨oc, u, e1, d⟩ := pin_track sa hz z
    exact ⟨remZ_in z, some u, oc, (I.hok b _ e1).1, d⟩
  have hf : ∀ (i : Nat) (y : Str) (v : V), (LamTab.tab k).free[i]? = some y → vs[i]? = some v → ∃ c u, g.lookup y = some c ∧ s.heap.IsCell c (some u) ∧ RelV v u := fun i y v e1 e2 => by
    obtain ⟨c, oc, u, a1, a2, a3, a4⟩ := hc i y v e1 e2
    exact ⟨c, u, a1, ⟨oc, (I.hok c _ (sa.sub _ _ a2)).1, a3⟩, a4⟩
  refine wpAny_call (codeAny_mono (L.run X.A X.stack s f c' g pm ctv dV us ud avs vs (S.rem Z) m as ds _ _ hr e0 hof hcd hdd inj has cf hf rv sa2 (ras.remZ hz bas) (rds.remZ hz bds) l1 l2 pR) fun r s' hq => ?_)
  cases r with
  | error e =>
    obtain ⟨a, B, H', cls, d, e1, fl, hok', ub, na, os, ag, T2, e2, e3⟩ := hq
    subst e1 e2
    have hn : ∀ b, Z b → T2.H b = none := fun b z => let ⟨oc, _, q, _⟩ := pinS b z; ub.free b oc q (n2 b z)
    have hB : ∀ b, Z b → ∃ oc : Obj, S.H b = some (pinO b oc) ∧ B.get? b = some oc := fun b z => let ⟨oc, q1, q2, q3⟩ := pinS b z; ⟨oc, q1, ub.keep b oc q2 (n2 b z) q3⟩
    have nza : ¬ Z a := fun z => by
      obtain ⟨oc, _, q⟩ := hB a z
      rw [fl.2.1] at q
      cases q
    have cx : L2.CX X.prog X.w X.stack S.H s (fun c d H => Fly X c d σ H) (.ref a) s' := ⟨a, B, (backW Z S T2).H, cls, d, rfl, fl, back_hok hok' hn hB, back_ub sa hz ub, (ovZ_out nza).trans na, os, ag, e3 hn⟩
    obtain ⟨a, B, sI, pins', σ', H', cls, d, e1, I', nb, up, sky, na, os, ag, e2, fl⟩ := XE.of_call I (W := fun c d σ' H => σ' = σ ∧ Fly X c d σ H) (fun cls d H' h => ⟨rfl, h⟩) cx
    exact fl _ s' ⟨a, B, sI, pins', σ', H', cls, d, e1, I', nb, up, sky, na, os, ag, rfl, rfl, e2, rfl⟩
  | ok fl =>
    cases fl with
    | ret u =>
      obtain ⟨v, H', os, bare, un, hok', rvv, T2, e2, e3⟩ := hq
      subst e2
      have hn : ∀ b, Z b → T2.H b = none := fun b z => let ⟨oc, _, q, _⟩ := pinS b z; un.free b oc q (n2 b z) (by simp)
      have hB : ∀ b, Z b → ∃ oc : Obj, S.H b = some (pinO b oc) ∧ s'.heap.get? b = some oc := fun b z => let ⟨oc, q1, q2, q3⟩ := pinS b z; ⟨oc, q1, un.keep b oc q2 (n2 b z) q3 (by simp)⟩
      exact I.after ⟨v, (backW Z S T2).H, os, bare, back_un sa hz un, back_hok hok' hn hB, rvv, e3 hn⟩
    | next => exact False.elim hq
    | brk => exact False.elim hq
    | cont => exact False.elim hq
end
end DL

set_option maxHeartbeats 4000000
/-! Lambdas: the rules. -/
namespace DL
open PySem PySem.Spec PyProof.Rows L2
open LamX (CodeO TabB)
variable [LamTab]
/-! ### x(..) where x holds a lambda that was handed on -/
open Classical in
/-- slot i holds it; rows: what each lambda computes -/
noncomputable def dAsk (rows : List (Nat × DFn)) (i : Nat) (t : DA) : DE := fun e m => match e[i]? with
  | some (some (.clo k ds)) => match rows.lookup k with
    | some G => (t e m).bind fun as m1 => if Cl m1 ∧ belows m1.length ds = true ∧ belows m1.length as = true ∧ as.length + (LamTab.tab k).dds.length = (LamTab.tab k).ps.length ∧ ds.length = (LamTab.tab k).free.length then G (as ++ ((LamTab.tab k).dds.map D.int ++ ds)) m1 else .stuck
    | none => .stuck
  | _ => .stuck
open Classical in
@[simp ↓] theorem dAsk_ap (rows : List (Nat × DFn)) (i : Nat) (t : DA) (e : En) (m : Mu) : dAsk rows i t e m = match e[i]? with
  | some (some (.clo k ds)) => match rows.lookup k with
    | some G => (t e m).bind fun as m1 => if Cl m1 ∧ belows m1.length ds = true ∧ belows m1.length as = true ∧ as.length + (LamTab.tab k).dds.length = (LamTab.tab k).ps.length ∧ ds.length = (LamTab.tab k).free.length then G (as ++ ((LamTab.tab k).dds.map D.int ++ ds)) m1 else .stuck
    | none => .stuck
  | _ => .stuck := rfl
theorem lkN_mem {β : Type} {k : Nat} {v : β} : ∀ {l : List (Nat × β)}, l.lookup k = some v → (k, v) ∈ l
  | [], h => by cases h
  | (a, b) :: l, h => by
    rw [List.lookup_cons] at h
    split at h
    · rename_i e
      have : k = a := by simpa using e
      cases h; subst this; exact List.mem_cons_self
    · exact List.mem_cons_of_mem _ (lkN_mem h)
section
variable {X : Cx} {rows : List (Nat × DFn)} {lv i : Nat} {a : Str} {p1 p2 : Pos} {e : Expr} {es : List Expr} {t : DA}
open Classical in
theorem pd_ask0 (hL : ∀ r ∈ rows, LamOk X.prog X.w X.K X.mg X.base lv r.1 r.2) (hr : Room lv X.A) (hN : X.N[i]? = some a := by rfl) (hv : Vis X.env.scope a := by first | exact Or.inl rfl | exact Or.inr (Or.inl rfl) | exact Or.inr (Or.inr rfl))
    (hd : (a == ("__debug__" : Str)) = false := by decide) (hcd : (a == ("__classdict__" : Str)) = false := by decide) : PDE X (.Call (.Name a p1) [] [] p2) (dAsk rows i dNil) := by
  intro S r m σ Q sa re q pins s I
  unfold dAsk at q
  split at q
  · rename_i k ds he
    split at q
    · rename_i G hG
      have q : PostD X.K S (if Cl m ∧ belows m.length ds = true ∧ belows m.length [] = true ∧ [].length + (LamTab.tab k).dds.length = (LamTab.tab k).ps.length ∧ ds.length = (LamTab.tab k).free.length then G ([] ++ ((LamTab.tab k).dds.map D.int ++ ds)) m else .stuck) Q _ := q
      split at q
      · rename_i hc
        obtain ⟨cl, b1, b2, l1, l2⟩ := hc
        obtain ⟨v, hσ, rv⟩ := re.2 i _ he
        cases rv with
        | @clo _ _ g f vs h1 h2 rds =>
        refine wpAny_Call_Name_kw (thn ((pe_var (pos := p1) (i := i) hN hv hd hcd).run pins s σ S.H (fun v H1 => v = .ref f ∧ H1 = S.H) I ⟨.ref f, hσ, rfl, rfl⟩) fun u s1 ⟨v, H1, I1, r1, ev, eH⟩ => ?_)
        subst ev eH
        obtain rfl : u = Value.ref f := r1
        obtain ⟨o, dV, c', hF, ⟨pm, ctv, ho⟩, _⟩ := id h1
        have hof : s1.heap.get? f = some o := (I1.hok f _ (sa.sub _ _ hF)).1
        rw [ho] at hof
        refine PySem.W.callWith_F0 ⟨_, _, _, _, hof⟩ ?_
        exact run_clo (us := []) (avs := []) (hL _ (lkN_mem hG)) hr I1 sa cl h1 h2 rds b1 .nil b2 .nil l1 l2 q
      · exact q.elim
    · exact q.elim
  · exact q.elim
theorem pd_ask (hL : ∀ r ∈ rows, LamOk X.prog X.w X.K X.mg X.base lv r.1 r.2) (hr : Room lv X.A) (ha : PDA X (e :: es) t) (hN : X.N[i]? = some a := by rfl) (hv : Vis X.env.scope a := by first | exact Or.inl rfl | exact Or.inr (Or.inl rfl) | exact Or.inr (Or.inr rfl))
    (hd : (a == ("__debug__" : Str)) = false := by decide) (hcd : (a == ("__classdict__" : Str)) = false := by decide)
    (hst : starEach (e :: es) X.env = (false, eval e X.env) :: starEach es X.env := by exact se_cons _ _ _ rfl) (hpl : (backTo p2 (starEach es X.env)).any (·.1) = false := by exact se_any _ _ _ rfl) : PDE X (.Call (.Name a p1) (e :: es) [] p2) (dAsk rows i t) := by
  intro S r m σ Q sa re q pins s I
  unfold dAsk at q
  split at q
  · rename_i k ds he
    split at q
    · rename_i G hG
      obtain ⟨v, hσ, rv⟩ := re.2 i _ he
      cases rv with
      | @clo _ _ g f vs h1 h2 rds =>
      refine wpAny_Call_Name_kw (thn ((pe_var (pos := p1) (i := i) hN hv hd hcd).run pins s σ S.H (fun v H1 => v = .ref f ∧ H1 = S.H) I ⟨.ref f, hσ, rfl, rfl⟩) fun u s1 ⟨v, H1, I1, r1, ev, eH⟩ => ?_)
      subst ev eH
      obtain rfl : u = Value.ref f := r1
      obtain ⟨o, dV, c', hF, ⟨pm, ctv, ho⟩, _⟩ := id h1
      have hof : s1.heap.get? f = some o := (I1.hok f _ (sa.sub _ _ hF)).1
      rw [ho] at hof
      refine PySem.W.callWith_F ⟨_, _, _, _, hof⟩ (thn (ha.run sa re q I1 p2) ?_) hst hpl
      rintro us s2 ⟨xs, das, m1, T, st, sa1, ras, rvs, I2, q2⟩
      have h1' := h1.ext st.ext
      have h2' := h2.ext st.ext
      have hof2 : s2.heap.get? f = some o := (I2.hok f _ (sa1.sub _ _ (st.ext _ _ hF))).1
      rw [ho] at hof2
      refine ⟨⟨_, _, _, _, hof2⟩, ?_⟩
      split at q2
      · rename_i hc
        obtain ⟨cl, b1, b2, l1, l2⟩ := hc
        exact run_clo (us := us) (avs := xs) (hL _ (lkN_mem hG)) hr I2 sa1 cl h1' h2' (rds.stp st) b1 ras b2 rvs l1 l2 q2
      · exact q2.elim
    · exact q.elim
  · exact q.elim
end
/-! ### a def that is given lambdas -/
def slotV (e : En) : List Nat → Option (List D)
  | [] => some []
  | i :: r => match e[i]? with
    | some (some d) => match slotV e r with
      | some ds => some (d :: ds)
      | none => none
    | _ => none
mutual
/-- lambdas are handed on with the values that their names have -/
def closeD (rows : List (Nat × List Nat)) (g : List (Str × Addr)) (e : En) : D → Option D
  | .lam k g' => match rows.lookup k with
    | some sl => if g' = cloFrom g (LamTab.tab k).scope.names [] then match slotV e sl with
        | some ds => some (.clo k ds)
        | none => none
      else none
    | none => none
  | .lst ds => match closeDs rows g e ds with
    | some xs => some (.lst xs)
    | none => none
  | .tup ds => match closeDs rows g e ds with
    | some xs => some (.tup xs)
    | none => none
  | d => some d
def closeDs (rows : List (Nat × List Nat)) (g : List (Str × Addr)) (e : En) : List D → Option (List D)
  | [] => some []
  | d :: ds => match closeD rows g e d with
    | some x => match closeDs rows g e ds with
      | some xs => some (x :: xs)
      | none => none
    | none => none
end
open Classical in
/-- an answer in which no lambda is left -/
noncomputable def closeR (r : Res D) : Res D := match r with
  | .ok d m => if Cl m ∧ below m.length d = true then .ok d m else .stuck
  | .exc C fs m => if Cl m ∧ belows m.length (fs.map (·.2)) = true then .exc C fs m else .stuck
  | .stuck => .stuck
noncomputable def dFunL (rows : List (Nat × List Nat)) (g : List (Str × Addr)) (G : DFn) (t : DA) : DE := fun e m => (t e m).bind fun ds m1 => match closeDs rows g e ds with
  | some xs => closeR (G xs m1)
  | none => .stuck
@[simp ↓] theorem dFunL_ap (rows : List (Nat × List Nat)) (g : List (Str × Addr)) (G : DFn) (t : DA) (e : En) (m : Mu) : dFunL rows g G t e m = (t e m).bind fun ds m1 => match closeDs rows g e ds with
  | some xs => closeR (G xs m1)
  | none => .stuck := rfl
/-- where a lambda's free names stand in the maker -/
def lamRowB (N : List Str) (sc : Scope) (t : LamT) (sl : List Nat) : Bool := decide (sl.map (fun j => N[j]?) = t.free.map some) && (t.free.all (fun y => decide ((y, NameKind.free) ∈ t.scope.names)) && lamFree sc t.scope t.free)
section
variable {X : Cx} {pins : List (Addr × Obj)} {σ : L2.St} {S : Wd} {m : Mu} {s : Shared} {rows : List (Nat × List Nat)} {e : En}
def celZ (X : Cx) (h : Heap) (b : Addr) : Prop := ∃ (y : Str) (oc : Obj) (u : Value), X.env.cells.lookup y = some b ∧ h.get? b = some oc ∧ oc.data = .cell (some u)
def celP (h : Heap) : Hp := fun b => match h.get? b with
  | some oc => some (pinO b oc)
  | none => none
theorem slotV_at {e : En} : ∀ {sl : List Nat} {ds : List D}, slotV e sl = some ds → ds.length = sl.length ∧ ∀ (i j : Nat), sl[i]? = some j → ∃ d, e[j]? = some (some d) ∧ ds[i]? = some d
  | [], ds, h => by cases h; exact ⟨rfl, fun i j q => by simp at q⟩
  | a :: sl, ds, h => by
    unfold slotV at h
    split at h
    · rename_i d hd
      split at h
      · rename_i ds' hs
        cases h
        obtain ⟨h1, h2⟩ := slotV_at hs
        refine ⟨by simp [h1], fun i j q => ?_⟩
        cases i with
        | zero => simp at q; subst q; exact ⟨d, hd, rfl⟩
        | succ i => exact h2 i j (by simpa using q)
      · cases h
    · cases h
theorem slot_reps {K : PySem.W.Frag} {i : List Addr} {F : Hp} {e : En} {σ : L2.St} (re : ∀ (j : Nat) d, e[j]? = some (some d) → ∃ v, σ[j]? = some (some v) ∧ Rep K i F d v) : ∀ {sl : List Nat} {ds : List D}, slotV e sl = some ds → ∃ vs, Reps K i F ds vs ∧ ∀ (n j : Nat), sl[n]? = some j → ∃ v, σ[j]? = some (some v) ∧ vs[n]? = some v
  | [], ds, h => by cases h; exact ⟨[], .nil, fun n j q => by simp at q⟩
  | a :: sl, ds, h => by
    unfold slotV at h
    split at h
    · rename_i d hd
      split at h
      · rename_i ds' hs
        cases h
        obtain ⟨vs, h1, h2⟩ := slot_reps re hs
        obtain ⟨v, h3, h4⟩ := re a d hd
        refine ⟨v :: vs, .cons h4 h1, fun n j q => ?_⟩
        cases n with
        | zero => simp at q; subst q; exact ⟨v, h3, rfl⟩
        | succ n => exact h2 n j (by simpa using q)
      · cases h
    · cases h
theorem clo_ok (I : Inv X pins σ S.H s) (sa : Sta X.K S m) (re : RelE X.K S e σ) (hn : ∀ b, celZ X s.heap b → S.H b = none) (hrows : ∀ r ∈ rows, lamRowB X.N X.env.scope (LamTab.tab r.1) r.2 = true) {k : Nat} {g' : List (Str × Addr)} {a : Addr} {sl : List Nat} {ds : List D}
    (h : LamAt S.F (LamTab.tab k) g' a) (hk : rows.lookup k = some sl) (hg : g' = cloFrom X.env.cells (LamTab.tab k).scope.names []) (hs : slotV e sl = some ds) : Rep X.K S.i (inW (celZ X s.heap) (celP s.heap) S).F (.clo k ds) (.ref a) := by
  have hb := hrows _ (lkN_mem hk)
  unfold lamRowB at hb
  simp only [Bool.and_eq_true, decide_eq_true_eq, List.all_eq_true] at hb
  obtain ⟨b1, b2, b3⟩ := hb
  have ex := in_ext (pf := celP s.heap) sa hn
  obtain ⟨vs, r1, r2⟩ := slot_reps (K := X.K) (i := S.i) (F := S.F) re.2 hs
  refine Rep.clo (h.ext ex) (fun i y v e1 e2 => ?_) (r1.mono (List.prefix_refl _) ex)
  have hsl : (sl.map fun j => X.N[j]?)[i]? = some (some y) := by rw [b1, List.getElem?_map, e1]; rfl
  rw [List.getElem?_map] at hsl
  cases hj : sl[i]? with
  | none => rw [hj] at hsl; cases hsl
  | some j =>
    rw [hj] at hsl
    have hNy : X.N[j]? = some y := Option.some.inj hsl
    obtain ⟨v', h1, h2⟩ := r2 i j hj
    rw [e2] at h2
    cases h2
    have hmem := b2 y (List.mem_of_getElem? e1)
    obtain ⟨z0, c0, hc0⟩ := lam_has I.ok b3 _ hmem rfl
    have hc0 : X.env.cells.lookup y = some c0 := hc0
    have hvis : X.env.scope.names.lookup y = some .cell ∨ X.env.scope.names.lookup y = some .free := by
      unfold lamFree at b3
      have z := List.all_eq_true.mp b3 _ hmem
      simp only [Bool.or_eq_true, Bool.and_eq_true, Bool.not_eq_true', decide_eq_true_eq, decide_eq_false_iff_not] at z
      rcases z with z | ⟨_, z⟩
      · exact absurd trivial z
      · exact z
    obtain ⟨mm, hns, hl⟩ := I.loc
    obtain ⟨u, ru, look⟩ := hl j y v hNy h1 (hvis.elim (fun k => .inr (.inl k)) fun k => .inr (.inr k))
    rcases look with ⟨k', _⟩ | ⟨_, c, e', oc, ho, hd⟩
    · have k' : X.env.scope.names.lookup y = some .local := k'
      rcases hvis with q | q <;> rw [q] at k' <;> cases k'
    · refine ⟨c, oc, u, ?_, ?_, hd, ru⟩
      · obtain ⟨c2, hc2⟩ := mem_lookup (cloFrom_has (cells := X.env.cells) (acc := []) hmem)
        rw [hg, hc2]
        have := (lam_clo I.ok b3 hc2).2
        rw [e'] at this
        exact this.symm
      · have z : celZ X s.heap c := ⟨y, oc, u, e', ho, hd⟩
        refine (ovZ_in z).trans ?_
        unfold celP
        rw [ho]
mutual
theorem close_ok (I : Inv X pins σ S.H s) (sa : Sta X.K S m) (re : RelE X.K S e σ) (hn : ∀ b, celZ X s.heap b → S.H b = none) (hrows : ∀ r ∈ rows, lamRowB X.N X.env.scope (LamTab.tab r.1) r.2 = true) : ∀ {d : D} {v : V} {d' : D}, Rep X.K S.i S.F d v → closeD rows X.env.cells e d = some d' → Rep X.K S.i (inW (celZ X s.heap) (celP s.heap) S).F d' v
  | _, _, _, .non, h => by unfold closeD at h; cases h; exact .non
  | _, _, _, .bl b, h => by unfold closeD at h; cases h; exact .bl b
  | _, _, _, .int i, h => by unfold closeD at h; cases h; exact .int i
  | _, _, _, .str x, h => by unfold closeD at h; cases h; exact .str x
  | _, _, _, .tup h1 r, h => by
    unfold closeD at h
    split at h
    · rename_i xs hx
      cases h
      exact .tup (SqT.ext' h1 (in_ext sa hn)) (closes_ok I sa re hn hrows r hx)
    · cases h
  | _, _, _, .lst h1 r, h => by
    unfold closeD at h
    split at h
    · rename_i xs hx
      cases h
      exact .lst (SqL.ext' h1 (in_ext sa hn)) (closes_ok I sa re hn hrows r hx)
    · cases h
  | _, _, _, .obj h1 h2 r, h => by unfold closeD at h; cases h; exact (Rep.obj h1 h2 r).mono (List.prefix_refl _) (in_ext sa hn)
  | _, _, _, .loc h1, h => by unfold closeD at h; cases h; exact .loc h1
  | _, _, _, .val v, h => by unfold closeD at h; cases h; exact .val v
  | _, _, _, .xob h1 h2 r, h => by unfold closeD at h; cases h; exact (Rep.xob h1 h2 r).mono (List.prefix_refl _) (in_ext sa hn)
  | _, _, _, .lam h1, h => by
    unfold closeD at h
    split at h
    · rename_i sl hk
      split at h
      · rename_i hg
        split at h
        · rename_i ds hs
          cases h
          exact clo_ok I sa re hn hrows h1 hk hg hs
        · cases h
      · cases h
    · cases h
  | _, _, _, .clo h1 h2 r, h => by unfold closeD at h; cases h; exact (Rep.clo h1 h2 r).mono (List.prefix_refl _) (in_ext sa hn)
theorem closes_ok (I : Inv X pins σ S.H s) (sa : Sta X.K S m) (re : RelE X.K S e σ) (hn : ∀ b, celZ X s.heap b → S.H b = none) (hrows : ∀ r ∈ rows, lamRowB X.N X.env.scope (LamTab.tab r.1) r.2 = true) : ∀ {ds : List D} {vs : List V} {xs : List D}, Reps X.K S.i S.F ds vs → closeDs rows X.env.cells e ds = some xs → Reps X.K S.i (inW (celZ X s.heap) (celP s.heap) S).F xs vs
  | _, _, _, .nil, h => by unfold closeDs at h; cases h; exact .nil
  | _, _, _, .cons h1 r, h => by
    unfold closeDs at h
    split at h
    · rename_i x hx
      split at h
      · rename_i xs hxs
        cases h
        exact .cons (close_ok I sa re hn hrows h1 hx) (closes_ok I sa re hn hrows r hxs)
      · cases h
    · cases h
end
/-- the call with the maker's cells in -/
theorem run_fnL {k : Nat} {f : Addr} {fd : FuncData} {ps : List Str} {G : DFn} {dds : List D} {Q : VK} {us : List Value} {vs : List V} {das xs : List D} (F : FnD X.prog X.w X.K X.mg X.base k f fd ps G) (hr : Room k X.A) (hb : Bd X.K fd ps dds) (hfn : ∀ y, X.fn y = true)
    (I : Inv X pins σ S.H s) (sa : Sta X.K S m) (re : RelE X.K S e σ) (hrows : ∀ r ∈ rows, lamRowB X.N X.env.scope (LamTab.tab r.1) r.2 = true) (r : Reps X.K S.i S.F das vs) (rv : Vals vs us) (hc : closeDs rows X.env.cells e das = some xs)
    (h : PostD X.K S (closeR (padF ps.length dds G xs m)) Q (fun c d H => Fly X c d σ H)) : wpAny (model X.prog X.w) X.A (call (.ref f) us) (EP X pins σ Q) X.xe s := by
  have hn : ∀ b, celZ X s.heap b → S.H b = none := fun b ⟨y, oc, u, h1, h2, h3⟩ => I.freeC y b h1
  have hnew : ∀ b, celZ X s.heap b → X.s_0.heap.objs.size ≤ b := fun b ⟨y, oc, u, h1, h2, h3⟩ => I.ok.cab y b (hfn y) h1
  have hp : ∀ b, celZ X s.heap b → ∃ oc : Obj, celP s.heap b = some (pinO b oc) ∧ s.heap.get? b = some oc := fun b ⟨y, oc, u, h1, h2, h3⟩ => ⟨oc, by unfold celP; rw [h2], h2⟩
  have hpin : ∀ b, celZ X s.heap b → IsPin (celP s.heap) b := fun b ⟨y, oc, u, h1, h2, h3⟩ => ⟨oc, u, by unfold celP; rw [h2], h3⟩
  have rx := closes_ok I sa re hn hrows r hc
  have saX : Sta X.K (inW (celZ X s.heap) (celP s.heap) S) m := in_sta sa hn
  have e := I.env0
  have nfr : ∀ b ∈ frs X.stack, ¬ celZ X s.heap b := fun b hm z => by
    rcases List.mem_cons.mp (I.stkSub b hm) with q | q
    · obtain ⟨y, oc, u, h1, _⟩ := z
      exact I.cne y b h1 q
    · obtain ⟨_, o, ho, _⟩ := I.ok.funs.mem q
      exact Nat.lt_irrefl _ (Nat.lt_of_lt_of_le (Heap.lt_size ho) (hnew b z))
  have e1 : Env0 X.prog X.w X.K X.mg X.base X.A X.stack s (inW (celZ X s.heap) (celP s.heap) S).H := by
    refine ⟨e.frames, e.mod, fun b o q => ⟨(e.bs b o q).1, ?_⟩, e.bsz, e.funs, fun b hb => ?_, in_hok I.hok hn hp, e.bare⟩
    · have z : ¬ celZ X s.heap b := fun z => Nat.lt_irrefl _ (Nat.lt_of_lt_of_le (Heap.lt_size q) (Nat.le_trans I.ok.bsz (hnew b z)))
      exact (ovZ_out z).trans (e.bs b o q).2
    · exact (ovZ_out (nfr b hb)).trans (e.frf b hb)
  unfold padF at h
  split at h
  · rename_i hl
    obtain ⟨ds, dvs, hb, hd, hD⟩ := hb.ex
    have r1 : Reps X.K S.i (inW (celZ X s.heap) (celP s.heap) S).F (xs ++ dds) (vs ++ dvs) := rx.append (hD _ _)
    have r2 : Vals (vs ++ dvs) (us ++ ds) := rv.append hd
    have hlv : (vs ++ dvs).length = ps.length := by rw [← r1.len]; exact hl
    have hl2 : (us ++ ds).length = ps.length := by rw [← r2.length]; exact hlv
    have pR : PostD X.K (inW (celZ X s.heap) (celP s.heap) S) (G (xs ++ dds) m)
        (fun v H' => ∃ T : Wd, H' = T.H ∧ (∀ b, celZ X s.heap b → T.H b = celP s.heap b) ∧ ∀ h2, HOk X.prog X.w T.H h2 → HOk X.prog X.w (T.rem (celZ X s.heap)).H h2 ∧ Q v (T.rem (celZ X s.heap)).H)
        (fun c d H' => ∃ T : Wd, H' = T.H ∧ (∀ b, celZ X s.heap b → T.H b = celP s.heap b) ∧ ∀ h2, HOk X.prog X.w T.H h2 → HOk X.prog X.w (T.rem (celZ X s.heap)).H h2 ∧ Fly X c d σ (T.rem (celZ X s.heap)).H) := by
      have key : ∀ {T : Wd}, Stp (inW (celZ X s.heap) (celP s.heap) S) T → (∀ b, celZ X s.heap b → IsPin T.F b) ∧ ∀ b, celZ X s.heap b → T.F b = celP s.heap b := fun {T} st => by
        have z : ∀ b, celZ X s.heap b → T.F b = celP s.heap b := fun b z => by
          obtain ⟨oc, q, _⟩ := hp b z
          rw [q]
          exact st.ext _ _ ((ovZ_in z).trans q)
        exact ⟨fun b hz => by obtain ⟨oc, u, q1, q2⟩ := hpin b hz; exact ⟨oc, u, (z b hz).trans q1, q2⟩, z⟩
      cases q : G (xs ++ dds) m with
      | stuck => rw [q] at h; exact h.elim
      | ok d m2 =>
        rw [q] at h
        unfold closeR at h
        dsimp only at h
        split at h
        · rename_i hcl
          intro v T st saT rd
          obtain ⟨k1, k2⟩ := key st
          refine ⟨T, rfl, fun b z => ?_, fun h2 hok2 => ⟨rem_hok hok2 saT k1, h v _ (out_stp sa hn hpin st) (rem_sta saT hcl.1 hok2 k1) (rd.remZ k1 hcl.2)⟩⟩
          obtain ⟨oc, q1, _⟩ := hp b z
          exact (saT.sub _ _ ((k2 b z).trans q1)).trans q1.symm
        · exact h.elim
      | exc C fs m2 =>
        rw [q] at h
        unfold closeR at h
        dsimp only at h
        split at h
        · rename_i hcl
          intro dd ws T st hnd saT h1 h2
          obtain ⟨k1, k2⟩ := key st
          have nz : ¬ celZ X s.heap dd := fun z => by
            obtain ⟨oc, q1, _⟩ := hp dd z
            rw [show (inW (celZ X s.heap) (celP s.heap) S).H dd = _ from (ovZ_in z).trans q1] at hnd
            cases hnd
          refine ⟨T, rfl, fun b z => ?_, fun hh hok2 => ⟨rem_hok hok2 saT k1, h dd ws _ (out_stp sa hn hpin st) ((ovZ_out nz).symm.trans hnd) (rem_sta saT hcl.1 hok2 k1) ((remZ_out nz).trans h1) (RepF.join h2.split.1 (h2.split.2.remZ k1 hcl.2))⟩⟩
          obtain ⟨oc, q1, _⟩ := hp b z
          exact (saT.sub _ _ ((k2 b z).trans q1)).trans q1.symm
        · exact h.elim
    refine wpAny_call (codeAny_mono (F.run X.A X.stack s _ ⟨us, []⟩ (us ++ ds) (vs ++ dvs) _ _ hr e1 (hb s us I.kIn hl2) r2 ⟨hlv, _, m, _, rfl, saX, r1, pR⟩) fun r s' hq => ?_)
    cases r with
    | error er =>
      obtain ⟨a, B, H', cls, d, q1, fl, hok', ub, na, os, ag, T, q2, q3, q4⟩ := hq
      subst q1 q2
      obtain ⟨q5, q6⟩ := q4 B hok'
      have na2 : (T.rem (celZ X s.heap)).H a = none := by
        by_cases z : celZ X s.heap a
        · exact remZ_in z
        · exact (remZ_out z).trans na
      have cx : L2.CX X.prog X.w X.stack S.H s (fun c d H => Fly X c d σ H) (.ref a) s' := ⟨a, B, (T.rem (celZ X s.heap)).H, cls, d, rfl, fl, q5, out_ub hn hp q3 hok' ub, na2, os, ag, q6⟩
      obtain ⟨a, B, sI, pins', σ', H', cls, d, e1, I', nb, up, sky, na, os, ag, e2, fl⟩ := XE.of_call I (W := fun c d σ' H => σ' = σ ∧ Fly X c d σ H) (fun cls d H' h => ⟨rfl, h⟩) cx
      exact fl _ s' ⟨a, B, sI, pins', σ', H', cls, d, e1, I', nb, up, sky, na, os, ag, rfl, rfl, e2, rfl⟩
    | ok fl =>
      cases fl with
      | ret u =>
        obtain ⟨v, H', os, bare, un, hok', rvv, T, q2, q3, q4⟩ := hq
        subst q2
        obtain ⟨q5, q6⟩ := q4 s'.heap hok'
        exact I.after ⟨v, (T.rem (celZ X s.heap)).H, os, bare, out_un hn hp q3 hok' un, q5, rvv, q6⟩
      | next => exact False.elim hq
      | brk => exact False.elim hq
      | cont => exact False.elim hq
  · exact h.elim
theorem pd_funL {k : Nat} {G : DFn} {x : Str} {p pos : Pos} {a : Expr} {es : List Expr} {t : DA} (F : FT X.prog X.w X.K X.mg X.base k x G) (hr : Room k X.A) (hrows : ∀ r ∈ rows, lamRowB X.N X.env.scope (LamTab.tab r.1) r.2 = true) (ha : PDA X (a :: es) t) (hfn : ∀ y, X.fn y = true := by intro _; rfl)
    (hg : Gl X x := by rfl) (hdb : (x == ("__debug__" : Str)) = false := by decide) (he : starEach (a :: es) X.env = (false, eval a X.env) :: starEach es X.env := by exact se_cons _ _ _ rfl) (hpl : (backTo pos (starEach es X.env)).any (·.1) = false := by exact se_any _ _ _ rfl) :
    PDE X (.Call (.Name x p) (a :: es) [] pos) (dFunL rows X.env.cells G t) := by
  obtain ⟨f, fd, ps, dds, G0, hm, hk, hf, hb, rfl⟩ := F.ex
  intro S r m σ Q sa re q pins s I
  refine wpAny_Call_Name_kw (ld_glob I hg hm ?_ hdb)
  refine PySem.W.callWith_K (h₀ := X.base) I.ok.mod.kin hk (thn (ha.run sa re q I pos) ?_) he hpl
  rintro us s1 ⟨vs, ds, m1, T, st, sa1, rds, rv, I1, q1⟩
  refine ⟨I1.kIn, ?_⟩
  split at q1
  · rename_i xs hx
    exact run_fnL hf hr hb hfn I1 sa1 (re.stp st) hrows rds rv hx q1
  · exact q1.elim
end
/-! ### defs that make lambdas -/
open Classical in
/-- the answer that hangs on no cells -/
noncomputable def allG (f : List (Str × Addr) → Res D) : Res D := if h : ∃ r, ∀ g, f g = r then h.choose else .stuck
theorem allG_eq {f : List (Str × Addr) → Res D} {r : Res D} (h : ∀ g, f g = r) : allG f = r := by
  unfold allG
  have e : ∃ r, ∀ g, f g = r := ⟨r, h⟩
  rw [dif_pos e]
  rw [← e.choose_spec []]
  exact h []
theorem allG_post {K : PySem.W.Frag} {S : Wd} {Q : VK} {W : XK} {f : List (Str × Addr) → Res D} (h : PostD K S (allG f) Q W) (g : List (Str × Addr)) : PostD K S (f g) Q W := by
  unfold allG at h
  by_cases e : ∃ r, ∀ g, f g = r
  · rw [dif_pos e] at h
    rw [e.choose_spec g]
    exact h
  · rw [dif_neg e] at h
    exact h.elim
def funCode (K : PySem.W.Frag) (f : Addr) : Value := match K.lookup f with
  | some ⟨_, _, .func fd, _⟩ => fd.code
  | _ => .none
section
variable {P : Program} {w : World} {K : PySem.W.Frag} {mg : Str → Option Value} {base : Heap}
theorem fnDG_of {x qual : Str} {params : Arguments} {body : List Stmt} {scope : Scope} {dvs : List V} {kws : List (Str × V)} {f : Addr} {fd : FuncData} {N ps : List Str} {k : Nat} {c : Addr} {t : List (Str × Addr) → DS} (F : FunD K x qual params body scope dvs kws f fd) (S : FnScope N ps scope) (hc : funCode K f = .ref c)
    (h : ∀ (A : Around) (outer : List Env) (s : Shared) (H : Hp) (E : XK), Room k (A.deeper (envOfC qual scope s.heap.objs.size f (.ref c))) → PDSs (cxOf (L2.CX P w) P w K mg base N qual scope f (.ref c) A outer s H E) body (t (cxOf (L2.CX P w) P w K mg base N qual scope f (.ref c) A outer s H E).env.cells)) :
    FnD P w K mg base (k + 1) f fd ps fun ds m => allG fun g => dFn N.length (t g) ds m := by
  obtain ⟨oc, od, dV, kV, doc, pm, an, cdv, ct, osl, rfl, lk, hcd, h5, h6⟩ := id F.ex
  have ec : cdv = .ref c := by
    unfold funCode at hc
    rw [lk] at hc
    exact hc
  subst ec
  refine fn_of lk hcd S (fun vs H Q E h => h.1) fun A outer s H vs Q E hr hsp => ⟨_, mxSs _ body, ?_⟩
  obtain ⟨_, T, m, ds, rfl, sa, rd, p⟩ := hsp
  have p := allG_post p (cxOf (L2.CX P w) P w K mg base N qual scope f (.ref c) A outer s T.H E).env.cells
  refine h A outer s T.H E hr T (env0 N.length ds) m (L2.start N vs) _ sa (relE_start rd) ?_
  have tk : Takes (cxOf (L2.CX P w) P w K mg base N qual scope f (.ref c) A outer s T.H E) (fun cls d _ H => E cls d H) := takes_of rfl rfl rfl rfl
  unfold dFn at p
  generalize (cxOf (L2.CX P w) P w K mg base N qual scope f (.ref c) A outer s T.H E).env.cells = g at p ⊢
  cases q : t g (env0 N.length ds) m with
  | stuck => rw [q] at p; exact p.elim
  | nx e m1 => rw [q] at p; exact fun σ U st sa1 re => p .non U st sa1 .non
  | rt d m1 => rw [q] at p; exact fun v U st sa1 r1 => p v U st sa1 r1
  | bk e m1 => rw [q] at p; exact p.elim
  | ct e m1 => rw [q] at p; exact p.elim
  | exc C fs e m1 => rw [q] at p; exact fun dd vs σ U st hn sa1 re h1 h2 => Fly.of tk (p dd vs U st hn sa1 h1 h2)
end
end DL

namespace DL
open PySem PySem.Spec L2
variable [LamTab]
section
variable {rows : List (Kl × DFn × List Tg)} {m : Mu} {n : Nat}
theorem insOf_seqL {x : D} {xs : List D} (h : seqL m x = some xs) : insOf m x = none := by
  unfold seqL at h
  split at h
  · rfl
  · split at h
    · rename_i e
      simp only [insOf, e]
    · cases h
  · cases h
theorem eqX_seq {x y : D} {xs ys : List D} (hx : seqL m x = some xs) (hy : seqL m y = some ys) : eqX rows m (n + 1) x y = if xs.length = ys.length then eqXs (eqI (eqX rows m n)) xs ys else some false := by
  rw [eqX.eq_def]
  simp only [insOf_seqL hx, hx, hy]
theorem seqL_at {k : Nat} {ds : List D} (h : m[k]? = some (.lst ds)) : seqL m (.loc k) = some ds := by
  simp only [seqL, h]
theorem eqX_nil {x : D} {xs : List D} (hx : seqL m x = some xs) : eqX rows m (n + 1) x (.lst []) = some (decide (xs = [])) := by
  rw [eqX_seq hx (ys := []) rfl]
  cases xs with
  | nil => rfl
  | cons a t => simp
theorem eqX_smap {α : Type} [DecidableEq α] {F : α → D} {as bs : List α} {x y : D} (hx : seqL m x = some (as.map F)) (hy : seqL m y = some (bs.map F)) (hi : ∀ a ∈ as, ∀ b ∈ bs, F a = F b → a = b) (hs : ∀ a, solid (F a) = true) (h : ∀ a ∈ as, ∀ b ∈ bs, eqX rows m n (F a) (F b) = some (decide (a = b))) :
    eqX rows m (n + 1) x y = some (decide (as = bs)) := by
  rw [eqX_seq hx hy]
  by_cases hl : as.length = bs.length
  · rw [if_pos (by simpa using hl), eqXs_map (fun a ha b hb => eqI_map (hi a ha b hb) (hs a) (hs b) (h a ha b hb)) hl]
  · rw [if_neg (by simpa using hl)]
    have : ¬ as = bs := fun e => hl (by rw [e])
    simp [this]
theorem gEqX_nil {neg : Bool} {x : D} {xs : List D} (hx : seqL m x = some xs) : gEqX neg rows 5 x (.lst []) m = .ok (.bl (neg ^^ decide (xs = []))) m := gEqX_of (eqX_nil hx)
theorem gNeX_nil {x : D} {xs : List D} (hx : seqL m x = some xs) : gNeX rows 5 x (.lst []) m = .ok (.bl (!decide (xs = []))) m := gNeX_of (insOf_seqL hx) (eqX_nil hx)
end
end DL
namespace DL
open PySem PySem.Spec L2
variable [LamTab]
section
variable {m : Mu} {g : DG} {c : DT} {b : DE} {e : En}
/-- a comprehension over data that are told by items -/
theorem compL_of {α : Type} {F f : α → D} {p : α → Bool} : ∀ (xs : List α) (acc : List D), (∀ x ∈ xs, ∃ e1, g (F x) e = some e1 ∧ c e1 m = .ok (p x) m ∧ (p x = true → b e1 m = .ok (f x) m)) → acc.length + xs.length ≤ sizeLine →
    dCompL g c b e (xs.map F) m acc = .ok (acc ++ (xs.filter p).map f) m
  | [], acc, _, _ => by simp
  | x :: xs, acc, h, hl => by
    obtain ⟨e1, h1, h2, h3⟩ := h x (by simp)
    rw [List.map_cons]
    unfold dCompL
    rw [h1]
    simp only [h2]
    cases hp : p x with
    | true =>
      have ih := compL_of xs (acc ++ [f x]) (fun y hy => h y (by simp [hy])) (by simp at hl ⊢; omega)
      simp only [h3 hp]
      rw [if_pos (by simp at hl; omega), ih]
      simp [hp]
    | false =>
      have ih := compL_of xs acc (fun y hy => h y (by simp [hy])) (by simp at hl ⊢; omega)
      simp only []
      rw [ih]
      simp [hp]
theorem compG_of {α : Type} {gd : Mu → Prop} (hg : gd m) {F f : α → D} {p : α → Bool} : ∀ (xs : List α) (acc : List D), (∀ x ∈ xs, ∃ e1, g (F x) e = some e1 ∧ c e1 m = .ok (p x) m ∧ (p x = true → b e1 m = .ok (f x) m)) → acc.length + xs.length ≤ sizeLine →
    dCompG gd g c b e (xs.map F) m acc = .ok (acc ++ (xs.filter p).map f) m
  | [], acc, _, _ => by unfold dCompG; simp [hg]
  | x :: xs, acc, h, hl => by
    obtain ⟨e1, h1, h2, h3⟩ := h x (by simp)
    rw [List.map_cons]
    unfold dCompG
    rw [if_pos hg]
    simp only [h1, h2]
    cases hp : p x with
    | true =>
      have ih := compG_of hg xs (acc ++ [f x]) (fun y hy => h y (by simp [hy])) (by simp at hl ⊢; omega)
      simp only [h3 hp]
      rw [if_pos (by simp at hl; omega), ih]
      simp [hp]
    | false =>
      have ih := compG_of hg xs acc (fun y hy => h y (by simp [hy])) (by simp at hl ⊢; omega)
      simp only []
      rw [ih]
      simp [hp]
theorem compS_of {α : Type} {fin : List D → Mu → Res D} {n : Nat} {xs : List α} {F f : α → D} {p : α → Bool} (hn : m[n]? = some (.lst (xs.map F))) (h : ∀ x ∈ xs, ∃ e1, g (F x) e = some e1 ∧ c e1 m = .ok (p x) m ∧ (p x = true → b e1 m = .ok (f x) m)) (hl : xs.length ≤ sizeLine) :
    comp1 fin g c b e (.loc n) m = fin ((xs.filter p).map f) m := by
  unfold comp1
  simp only [hn]
  rw [compG_of hn xs [] h (by simpa using hl)]
  simp
end
end DL
namespace DL
variable [LamTab]
theorem dLoop_step {g : DG} {b : DS} {d : D} {ds : List D} {e e1 e2 : En} {m m2 : Mu} (h1 : g d e = some e1) (h2 : b e1 m = .nx e2 m2) : dLoop g b (d :: ds) e m = dLoop g b ds e2 m2 := by
  rw [dLoop.eq_def]
  simp only [h1, h2]
end DL
namespace DL
open PySem PySem.Spec L2
variable [LamTab]
theorem dNeg_of {C : Addr} {G : DFn} {t : DE} {e : En} {m m1 : Mu} {d : D} {ns : List Str} {ds : List D} (h : t e m = .ok d m1) (hi : insOf m1 d = some (C, ns, ds)) : dNeg C G t e m = G [d] m1 := by
  unfold dNeg
  rw [h]
  cases d with
  | int i => cases hi
  | _ => simp only [Res.bind_ok, hi, if_true]
end DL

/-! The head: what the top leaves is read by names off the heap's written part; the law's end over it. -/
namespace DL
open PySem PySem.Spec PyProof.Rows L2
variable [LamTab]
/-! ### where things stand, by names -/
/-- what a record (a property, a staticmethod, a classmethod) holds first -/
def recFn (K : PySem.W.Frag) (T : String) (p : Addr) : Addr := match PySem.W.recIn K p T with
  | some (.ref f :: _) => f
  | _ => 0
/-- the record behind a static method -/
def staP (K : PySem.W.Frag) (C : Str) (m : Str) : Addr := match PySem.W.findCls K (.ref (He.ga K C)) (.type "type") m with
  | some (.get _ (.ref p) _ _) => p
  | _ => 0
inductive Ad where
  | glo (x : Str)
  | meth (C m : Str)
  | prop (C m : Str)
  | stat (C m : Str)
  | clm (C m : Str)
def Ad.at_ (K : PySem.W.Frag) : Ad → Addr
  | .glo x => He.ga K x
  | .meth C m => He.ma K (He.ga K C) m
  | .prop C m => recFn K "property" (He.ma K (He.ga K C) m)
  | .stat C m => recFn K "staticmethod" (staP K C m)
  | .clm C m => recFn K "classmethod" (staP K C m)
/-! ### facts -/
inductive Fk where
  | he (f : He.Fa)
  | atr (C m : Str)              -- a class's attribute is an object
  | fn (a : Ad)
  | keep (a : Ad)
  | rec_ (T : String) (p : PySem.W.Frag → Addr)
  | b (f : PySem.W.Frag → Bool)
def recB (K : PySem.W.Frag) (T : String) (p : Addr) : Bool := match PySem.W.recIn K p T with
  | some (.ref _ :: _) => true
  | _ => false
theorem recB_ok {K : PySem.W.Frag} {T : String} {p : Addr} (h : recB K T p = true) : ∃ rest, PySem.W.recIn K p T = some (.ref (recFn K T p) :: rest) := by
  unfold recB at h
  unfold recFn
  split at h
  · rename_i a rest e
    exact ⟨rest, by rw [e]⟩
  · cases h
def staB (K : PySem.W.Frag) (C m : Str) : Bool := match PySem.W.findCls K (.ref (He.ga K C)) (.type "type") m with
  | some (.get (.builtin id) (.ref _) .none (.ref D)) => decide (id = "staticmethod.__get__") && decide (D = He.ga K C)
  | _ => false
theorem staB_ok {K : PySem.W.Frag} {C m : Str} (h : staB K C m = true) : PySem.W.findCls K (.ref (He.ga K C)) (.type "type") m = some (.get (.builtin "staticmethod.__get__") (.ref (staP K C m)) .none (.ref (He.ga K C))) := by
  unfold staB at h
  unfold staP
  split at h
  · rename_i id p D e
    obtain ⟨h1, h2⟩ := He.ba h
    have e1 := of_decide_eq_true h1
    have e2 := of_decide_eq_true h2
    subst e1 e2
    rw [e]
  · cases h
def clmB (K : PySem.W.Frag) (C m : Str) : Bool := match PySem.W.findCls K (.ref (He.ga K C)) (.type "type") m with
  | some (.get (.builtin id) (.ref _) .none (.ref D)) => decide (id = "classmethod.__get__") && decide (D = He.ga K C)
  | _ => false
theorem clmB_ok {K : PySem.W.Frag} {C m : Str} (h : clmB K C m = true) : PySem.W.findCls K (.ref (He.ga K C)) (.type "type") m = some (.get (.builtin "classmethod.__get__") (.ref (staP K C m)) .none (.ref (He.ga K C))) := by
  unfold clmB at h
  unfold staP
  split at h
  · rename_i id p D e
    obtain ⟨h1, h2⟩ := He.ba h
    have e1 := of_decide_eq_true h1
    have e2 := of_decide_eq_true h2
    subst e1 e2
    rw [e]
  · cases h
/-- a whole number in a class -/
def conB (K : PySem.W.Frag) (C f : Str) (n : Int) : Bool := match PySem.W.findCls K (.ref (He.ga K C)) (.type "type") f with
  | some (.val (.int k _)) => decide (k = n)
  | _ => false
theorem conB_ok {K : PySem.W.Frag} {C f : Str} {n : Int} (h : conB K C f n = true) : ∃ t, PySem.W.findCls K (.ref (He.ga K C)) (.type "type") f = some (.val (.int n t)) := by
  unfold conB at h
  split at h
  · rename_i k t e
    obtain rfl := of_decide_eq_true h
    exact ⟨t, e⟩
  · cases h
theorem eqO_of {a b : Option (Option Value)} (h : He.eqO a b = true) : a = b := He.eqO_ok h
/-! ### defs -/
abbrev FnK : Type := Option (Str × Str × Arguments × FuncBody × Scope × Addr × List (Str × Addr) × Addr)
def fnK (K : PySem.W.Frag) (a : Addr) : FnK := match K.lookup a with
  | some ⟨_, _, .func g, _⟩ => some (g.name, g.qualname, g.params, g.body, g.scope, g.globals, g.closure, g.builtins)
  | _ => none
structure DefK where
  ad : Ad
  name : Str
  qual : Str
  params : Arguments
  body : List Stmt
  scope : Scope
  dfl : List V := []
def DefK.seen (d : DefK) : FnK := some (d.name, d.qual, d.params, .stmts d.body, d.scope, mainGlobals, [], builtinsNs)
def DefK.okB (K : PySem.W.Frag) (d : DefK) : Bool := PySem.W.keepIn K (.ref (d.ad.at_ K)) && (match K.lookup (d.ad.at_ K) with
  | some ⟨_, _, .func g, _⟩ => PySem.W.codeIn K g.code d.qual && He.dflB K g.defaults d.dfl
  | _ => false)
theorem DefK.funD {K : PySem.W.Frag} {d : DefK} (e : fnK K (d.ad.at_ K) = d.seen) (c : d.okB K = true) : ∃ fd, FunD K d.name d.qual d.params d.body d.scope d.dfl [] (d.ad.at_ K) fd := by
  obtain ⟨kp, c1⟩ := He.ba c
  unfold fnK at e
  cases q : K.lookup (d.ad.at_ K) with
  | none => rw [q] at c1; cases c1
  | some o =>
    obtain ⟨oc, od, dt, osl⟩ := o
    rw [q] at c1 e
    cases dt with
    | func g =>
      obtain ⟨m1, m2, m3, m4, m5, m6, m7, m8, m9, m10, m11, m12, m13, m14, m15⟩ := g
      have z : (some (m1, m2, m3, m4, m5, m6, m7, m15) : FnK) = some (d.name, d.qual, d.params, .stmts d.body, d.scope, mainGlobals, [], builtinsNs) := e
      simp only [Option.some.injEq, Prod.mk.injEq] at z
      obtain ⟨a1, a2, a3, a4, a5, a6, a7, a8⟩ := z
      subst a1 a2 a3 a4 a5 a6 a7 a8
      obtain ⟨k1, k2⟩ := He.ba (show (PySem.W.codeIn K m13 d.qual && He.dflB K m8 d.dfl) = true from c1)
      exact ⟨_, ⟨oc, od, m8, m9, m10, m11, m12, m13, m14, osl, rfl, q, k1, He.dflB_ok k2, .inl rfl⟩, kp⟩
    | _ => cases c1
/-! ### the Hook -/
abbrev AlK : Type := Bool × List FnK
def obsK (fs : List (PySem.W.Frag → Bool)) (ds : List DefK) (K : PySem.W.Frag) : AlK := ((fs.all fun f => f K) && ds.all fun d => d.okB K, ds.map fun d => fnK K (d.ad.at_ K))
def valK (ds : List DefK) : AlK := (true, ds.map DefK.seen)
def SaysK (fs : List (PySem.W.Frag → Bool)) (ds : List DefK) (K : PySem.W.Frag) : Prop := obsK fs ds K = valK ds
/-- what an object names that is looked at: a namespace's values, a class's namespace, a function's code and defaults, a record's function -/
def refK (o : Obj) : List Addr := match o.data with
  | .dict es _ => es.toList.flatMap fun e => He.refV e.val
  | .cls cd => [cd.ns]
  | .func fd => He.refV fd.code ++ He.refV fd.defaults
  | .fields vs => (match o.cls with
    | .type c => (match decide (c = "property") || (decide (c = "staticmethod") || decide (c = "classmethod")) with
      | true => vs.toList.flatMap He.refV
      | false => [])
    | _ => [])
  | _ => []
def nextK (g : Addr → Option Obj) (l : List Addr) : List Addr := l.flatMap fun a => match g a with
  | some o => refK o
  | none => []
def asK (g : Addr → Option Obj) : Nat → List Addr → List Addr
  | 0, l => l
  | n + 1, l => l ++ asK g n (nextK g l)
def obsKG (n : Nat) (fs : List (PySem.W.Frag → Bool)) (ds : List DefK) (g : Addr → Option Obj) : AlK := obsK fs ds (He.frG g (asK g n [mainGlobals]))
def hookK (n : Nat) (fs : List (PySem.W.Frag → Bool)) (ds : List DefK) : PySem.W.Hook where
  α := AlK
  obs := fun s => obsKG n fs ds s.heap.get?
  val := fun _ => valK ds
  says := fun _ h => ∃ K : PySem.W.Frag, K.In h ∧ SaysK fs ds K
  of := fun _ _ e => ⟨_, He.frG_in, e⟩
  keeps := fun _ _ _ ⟨K, hK, c⟩ k => ⟨K, PySem.W.Frag.In.keeps hK k, c⟩
theorem obsKG_eq {n : Nat} {fs : List (PySem.W.Frag → Bool)} {ds : List DefK} {g : Addr → Option Obj} {s : Shared} (h : ∀ a, g a = s.heap.get? a) : obsKG n fs ds g = (hookK n fs ds).obs s := by
  obtain rfl : g = s.heap.get? := funext h
  rfl
section
variable {fs : List (PySem.W.Frag → Bool)} {ds : List DefK} {K : PySem.W.Frag}
theorem SaysK.fact (c : SaysK fs ds K) (i : Nat) {f : PySem.W.Frag → Bool} (h : fs[i]? = some f := by rfl) : f K = true :=
  List.all_eq_true.mp (He.ba (show ((fs.all fun f => f K) && ds.all fun d => d.okB K) = true from congrArg Prod.fst c)).1 f (List.mem_of_getElem? h)
theorem SaysK.df (c : SaysK fs ds K) (i : Nat) {d : DefK} (h : ds[i]? = some d := by rfl) : ∃ fd, FunD K d.name d.qual d.params d.body d.scope d.dfl [] (d.ad.at_ K) fd := by
  have c2 := (He.ba (show ((fs.all fun f => f K) && ds.all fun d => d.okB K) = true from congrArg Prod.fst c)).2
  have e : (ds.map fun d => fnK K (d.ad.at_ K))[i]? = (ds.map DefK.seen)[i]? := congrArg (fun z : AlK => z.2[i]?) c
  rw [List.getElem?_map, List.getElem?_map, h] at e
  exact DefK.funD (Option.some.inj e) (List.all_eq_true.mp c2 d (List.mem_of_getElem? h))
end
/-- the law's end over a head that is read by names -/
theorem walk_ofK {l : PySem.W.OpenLaw} {n k : Nat} {q : Program} {loose : List Str} {XP : (Str → Option Value) → Heap → Prop} {YP : World → Heap → Prop} {d : DefRec} {x : Str}
    (hn : l.most = some n) (hn2 : n ≤ sizeLine) (hdf : d.params.defaults = []) (hr : Room k callerA)
    (F : ∀ (w : World) (mg : Str → Option Value) (fa : Addr) (h : Heap), YP w h → h.Ns mainGlobals mg → mg d.name = some (.ref fa) →
      ∃ (K : PySem.W.Frag) (fd : FuncData) (sp : Sp), K.In h ∧ (∀ (s : Shared) (u : Value), BindsTo s fd ⟨[u], []⟩ [(x, u)]) ∧
        (∀ (H : Hp) (a : Addr) (ns : List Int), ns.length ≤ n → SqL K H a (ns.map V.int) → sp [.ref a] H (fun v _ => v = .bl true) fun _ _ _ => False) ∧
        ∀ base : Heap, K.In base → base.Ns mainGlobals mg → FnOk l.prog w K mg base (L2.CX l.prog w) k fa fd [x] sp) :
    PySem.W.WalkO q loose XP YP l.row.toRowW d [] (fun f vs => PySem.call f vs) := by
  refine Att.attach_call hn hdf fun w s0 s1 mg mb fa o pm cd doc a vs ns G Y ho hd hcd hmg hobj hints hlen hg => ?_
  obtain ⟨K, fd, sp, KX, hb, hsp, hF⟩ := F w mg fa _ Y G.T.g hmg
  refine law_call KX G.T.g G.T.b G.T.builtins G.T.nolimit hg hobj hints (Nat.le_trans hlen hn2) hr hF hb (fun H _ hS => hsp H a ns hlen hS) fun H e s' z => nofly z
end DL

set_option maxHeartbeats 4000000
/-! The head with tables of code objects and defs that hold __class__; small help for walks. -/
namespace DL
open PySem PySem.Spec PyProof.Rows L2
open LamX (TabB)
/-! ### where a lambda stands in a text -/
def subE : Expr → List Expr
  | .List es _ => es
  | .Tuple es _ _ => es
  | .Call f es _ _ => f :: es
  | .BinOp a _ b _ => [a, b]
  | .BoolOp _ es _ => es
  | .Compare a _ bs _ => a :: bs
  | .Subscript a b _ => [a, b]
  | .IfExp c a b _ => [c, a, b]
  | .UnaryOp _ a _ => [a]
  | .Starred a _ => [a]
  | .Attribute a _ _ => [a]
  | _ => []
def subS : Stmt → List Expr
  | .Assign _ v _ => [v]
  | .Return (some v) _ => [v]
  | .Expr v _ => [v]
  | .If c _ _ _ => [c]
  | _ => []
def bodS : Stmt → List Stmt
  | .If _ b o _ => b ++ o
  | .For _ _ b o _ => b ++ o
  | .While _ b o _ => b ++ o
  | .FunctionDef .. => []
  | _ => []
def exAt (e : Expr) : List Nat → Expr
  | [] => e
  | i :: r => exAt ((subE e).getD i e) r
def stAt (s : Stmt) : List Nat → Stmt
  | [] => s
  | i :: r => stAt ((bodS s).getD i s) r
def lamP : Expr → Arguments
  | .Lambda p _ _ _ => p
  | _ => ⟨[], [], none, [], [], none, []⟩
def lamB : Expr → Expr
  | .Lambda _ b _ _ => b
  | e => e
def lamS : Expr → Scope
  | .Lambda _ _ s _ => s
  | _ => default
/-! ### code objects and their tables -/
def funCodeA (K : PySem.W.Frag) (f : Addr) : Value := match K.lookup f with
  | some ⟨_, _, .func fd, _⟩ => fd.code
  | _ => .none
def codeA (K : PySem.W.Frag) (f : Addr) : Addr := match funCodeA K f with
  | .ref c => c
  | _ => 0
def tabA (K : PySem.W.Frag) (f : Addr) : Addr := match K.lookup (codeA K f) with
  | some ⟨_, _, .fields vs, _⟩ => (match vs.getD 11 .none with
    | .ref P => P
    | _ => 0)
  | _ => 0
variable [LamTab]
theorem roomH_mark {k : Nat} {A : Around} {h : Option Value} (r : Room k A) : L2H.RoomH k (A.mark h) := ⟨r.dp, r.un⟩
theorem _root_.L2H.RoomH.units {k : Nat} {A : Around} (r : L2H.RoomH k A) : A.units + 64 < cLine := by have := r.un; omega
theorem LamOk.mono {P : Program} {w : World} {K : PySem.W.Frag} {mg : Str → Option Value} {base : Heap} {j k n : Nat} {G : DFn} (h : LamOk P w K mg base j n G) (hk : j ≤ k) : LamOk P w K mg base k n G :=
  ⟨fun A outer s f c' g pm ctv dV us ud avs fvs S m ads fds Q E hr => h.run A outer s f c' g pm ctv dV us ud avs fvs S m ads fds Q E (hr.mono hk)⟩
def codeB (K : PySem.W.Frag) (f : Addr) : Bool := match funCodeA K f with
  | .ref c => (match K.lookup c with
    | some ⟨.type t, _, .fields vs, _⟩ => decide (t = "code") && (match vs.getD 11 .none, vs.getD 18 .none, vs.getD 7 .none, vs.getD 9 .none, vs.getD 10 .none with
      | .ref P, .str _ _, .int _ _, .bool _, .int _ _ => decide (11 < vs.size) && (decide (c ≠ P) && (K.lookup P).isNone)
      | _, _, _, _, _ => false)
    | _ => false)
  | _ => false
theorem getD_get {vs : Array Value} {i : Nat} {v : Value} (h : vs.getD i .none = v) (hi : i < vs.size) : vs[i]? = some v := by
  rw [Array.getD_eq_getD_getElem?] at h
  rw [Array.getElem?_eq_getElem hi] at h ⊢
  exact congrArg some h
theorem codeB_ok {K : PySem.W.Frag} {f : Addr} (h : codeB K f = true) : funCode K f = .ref (codeA K f) ∧ K.lookup (tabA K f) = none ∧ ∀ hp : Heap, K.In hp → PySem.W.CodeHd hp (codeA K f) (tabA K f) := by
  have e0 : funCode K f = funCodeA K f := rfl
  unfold codeB at h
  split at h
  · rename_i c hc
    have ec : codeA K f = c := by unfold codeA; rw [hc]
    split at h
    · rename_i t od vs sl hK
      obtain ⟨h1, h⟩ := He.ba h
      split at h
      · rename_i P file tf flags tg inF text tt g1 g2 g3 g4 g5
        obtain ⟨h2, h⟩ := He.ba h
        obtain ⟨h3, h4⟩ := He.ba h
        have eP : tabA K f = P := by
          unfold tabA
          rw [ec, hK]
          dsimp only
          rw [g1]
        rw [ec, eP]
        refine ⟨e0.trans hc, by simpa using h4, fun hp X => ⟨_, vs, file, tf, flags, tg, inF, text, tt, X _ _ hK, ?_, rfl, getD_get g1 (of_decide_eq_true h2), g1, g2, g3, g4, g5, of_decide_eq_true h3⟩⟩
        show Value.type t = .type "code"
        rw [of_decide_eq_true h1]
      · cases h
    · cases h
  · cases h
def emptyT : Option Obj → Bool
  | some ⟨.none, none, .fields a, sl⟩ => a.isEmpty && sl.isEmpty
  | _ => false
theorem emptyT_ok {o : Option Obj} (h : emptyT o = true) : o = some { cls := .none, data := .fields #[] } := by
  unfold emptyT at h
  split at h
  · obtain ⟨h1, h2⟩ := He.ba h
    rw [Array.isEmpty_iff] at h1 h2
    subst h1 h2
    rfl
  · cases h
/-! ### defs that hold __class__ -/
abbrev FnKS : Type := Option (Str × Str × Arguments × FuncBody × Scope × Addr × List Str × Addr)
def fnKS (K : PySem.W.Frag) (a : Addr) : FnKS := match K.lookup a with
  | some ⟨_, _, .func g, _⟩ => some (g.name, g.qualname, g.params, g.body, g.scope, g.globals, g.closure.map (·.1), g.builtins)
  | _ => none
def celA (K : PySem.W.Frag) (a : Addr) : Addr := match K.lookup a with
  | some ⟨_, _, .func g, _⟩ => (match g.closure with
    | (_, c) :: _ => c
    | [] => 0)
  | _ => 0
structure DefS where
  ad : Ad
  name : Str
  qual : Str
  params : Arguments
  body : List Stmt
  scope : Scope
  cl : Str
  file : Str
def DefS.seen (d : DefS) : FnKS := some (d.name, d.qual, d.params, .stmts d.body, d.scope, mainGlobals, ["__class__"], builtinsNs)
def fileB (K : PySem.W.Frag) (file : Str) (v : Value) : Bool := match v with
  | .ref c => (match K.lookup c with
    | some ⟨_, _, .fields vs, _⟩ => (match vs.getD 2 .none with
      | .str f _ => decide (2 < vs.size) && (file == f)
      | _ => false)
    | _ => false)
  | _ => false
theorem fileB_ok {K : PySem.W.Frag} {file : Str} {v : Value} (h : fileB K file v = true) : ∃ (c : Addr) (ccl : Value) (cdd : Option Addr) (vs : Array Value) (ccs : Array (Option Value)) (f : Str) (tf : Tok), v = .ref c ∧ K.lookup c = some ⟨ccl, cdd, .fields vs, ccs⟩ ∧ vs[2]? = some (.str f tf) ∧ (file == f) = true := by
  unfold fileB at h
  split at h
  · rename_i c
    split at h
    · rename_i ccl cdd vs ccs hc
      split at h
      · rename_i f tf hv
        obtain ⟨k4, k5⟩ := He.ba h
        exact ⟨c, ccl, cdd, vs, ccs, f, tf, rfl, hc, getD_get hv (of_decide_eq_true k4), k5⟩
      · cases h
    · cases h
  · cases h
def DefS.okB (K : PySem.W.Frag) (d : DefS) : Bool := PySem.W.keepIn K (.ref (d.ad.at_ K)) && ((match K.lookup (celA K (d.ad.at_ K)) with
    | some ⟨_, _, .cell (some (.ref D)), _⟩ => decide (D = He.ga K d.cl) && (PySem.W.clsIn K D).isSome
    | _ => false) && (match K.lookup (d.ad.at_ K) with
  | some ⟨_, _, .func g, _⟩ => PySem.W.codeIn K g.code d.qual && (He.dflB K g.defaults [] && fileB K d.file g.code)
  | _ => false))
theorem DefS.funS {P : Program} {K : PySem.W.Frag} {d : DefS} (hf : d.file = P.main.file) (e : fnKS K (d.ad.at_ K) = d.seen) (c : d.okB K = true) : ∃ fd, FunS P K d.name d.qual d.params d.body d.scope [] (d.ad.at_ K) fd (He.ga K d.cl) (celA K (d.ad.at_ K)) := by
  obtain ⟨kp, c⟩ := He.ba c
  obtain ⟨cc, c1⟩ := He.ba c
  have hcell : ∃ cl cld csl, K.lookup (celA K (d.ad.at_ K)) = some ⟨cl, cld, .cell (some (.ref (He.ga K d.cl))), csl⟩ ∧ ∃ cdD, PySem.W.clsIn K (He.ga K d.cl) = some cdD := by
    split at cc
    · rename_i cl cld D csl hK
      obtain ⟨h1, h2⟩ := He.ba cc
      have h1 := of_decide_eq_true h1
      subst h1
      exact ⟨cl, cld, csl, hK, Option.isSome_iff_exists.mp h2⟩
    · cases cc
  obtain ⟨cl, cld, csl, hK, hD⟩ := hcell
  unfold fnKS at e
  cases q : K.lookup (d.ad.at_ K) with
  | none => rw [q] at c1; cases c1
  | some o =>
    obtain ⟨oc, od, dt, osl⟩ := o
    rw [q] at c1 e
    cases dt with
    | func g =>
      obtain ⟨m1, m2, m3, m4, m5, m6, m7, m8, m9, m10, m11, m12, m13, m14, m15⟩ := g
      have z : (some (m1, m2, m3, m4, m5, m6, m7.map (·.1), m15) : FnKS) = some (d.name, d.qual, d.params, FuncBody.stmts d.body, d.scope, mainGlobals, [("__class__" : Str)], builtinsNs) := e
      simp only [Option.some.injEq, Prod.mk.injEq] at z
      obtain ⟨a1, a2, a3, a4, a5, a6, a7, a8⟩ := z
      subst a1 a2 a3 a4 a5 a6 a8
      obtain ⟨x, hx⟩ : ∃ x, m7 = [(("__class__" : Str), x)] := by
        cases m7 with
        | nil => cases a7
        | cons p r =>
          cases r with
          | nil =>
            obtain ⟨p1, p2⟩ := p
            have : p1 = ("__class__" : Str) := (List.cons.inj a7).1
            subst this
            exact ⟨p2, rfl⟩
          | cons p2 r => simp at a7
      subst hx
      have ex : celA K (d.ad.at_ K) = x := by unfold celA; rw [q]
      obtain ⟨k1, k⟩ := He.ba (show (PySem.W.codeIn K m13 d.qual && (He.dflB K m8 [] && fileB K d.file m13)) = true from c1)
      obtain ⟨k2, k3⟩ := He.ba k
      obtain ⟨cda, ccl, cdd, vs, ccs, file, tf, rfl, hc, hv, k5⟩ := fileB_ok k3
      rw [ex]
      exact ⟨_, ⟨oc, od, m8, m9, m10, m11, m12, cda, m14, osl, rfl, q, k1, He.dflB_ok k2, ccl, cdd, vs, ccs, file, tf, hc, hv, by rw [← hf]; exact k5⟩, ⟨cl, cld, csl, by rw [← ex]; exact hK⟩, hD, kp⟩
    | _ => cases c1
/-! ### the Hook -/
def refK2 (o : Obj) : List Addr := match o.data with
  | .dict es _ => es.toList.flatMap fun e => He.refV e.val
  | .cls cd => [cd.ns]
  | .func fd => He.refV fd.code ++ (He.refV fd.defaults ++ fd.closure.map (·.2))
  | .cell (some v) => He.refV v
  | .fields vs => (match o.cls with
    | .type c => (match decide (c = "property") || (decide (c = "staticmethod") || decide (c = "classmethod")) with
      | true => vs.toList.flatMap He.refV
      | false => [])
    | _ => [])
  | _ => []
def nextK2 (g : Addr → Option Obj) (l : List Addr) : List Addr := l.flatMap fun a => match g a with
  | some o => refK2 o
  | none => []
def asK2 (g : Addr → Option Obj) : Nat → List Addr → List Addr
  | 0, l => l
  | n + 1, l => l ++ asK2 g n (nextK2 g l)
/-- what is asked of the head: facts, defs, defs that hold __class__, makers of lambdas -/
structure Hd where
  fs : List (PySem.W.Frag → Bool)
  ds : List DefK
  ss : List DefS
  ms : List Str
abbrev AlX : Type := Bool × List FnK × List FnKS
def Hd.obsK (q : Hd) (g : Addr → Option Obj) (K : PySem.W.Frag) : AlX :=
  ((q.fs.all fun f => f K) && ((q.ds.all fun d => d.okB K) && ((q.ss.all fun d => d.okB K) && (q.ms.all fun x => codeB K (He.ga K x) && emptyT (g (tabA K (He.ga K x)))))), q.ds.map fun d => fnK K (d.ad.at_ K), q.ss.map fun d => fnKS K (d.ad.at_ K))
def Hd.val (q : Hd) : AlX := (true, q.ds.map DefK.seen, q.ss.map DefS.seen)
def Hd.obsG (q : Hd) (n : Nat) (g : Addr → Option Obj) : AlX := q.obsK g (He.frG g (asK2 g n [mainGlobals, cStatics]))
/-- what is known of a written part K of the heap h -/
structure Hd.Says (q : Hd) (h : Heap) (K : PySem.W.Frag) : Prop where
  kin : K.In h
  fs : ∀ f ∈ q.fs, f K = true
  ds : ∀ d ∈ q.ds, d.okB K = true
  ss : ∀ d ∈ q.ss, d.okB K = true
  ms : ∀ x ∈ q.ms, codeB K (He.ga K x) = true ∧ h.get? (tabA K (He.ga K x)) = some { cls := .none, data := .fields #[] }
  dk : q.ds.map (fun d => fnK K (d.ad.at_ K)) = q.ds.map DefK.seen
  sk : q.ss.map (fun d => fnKS K (d.ad.at_ K)) = q.ss.map DefS.seen
def Hd.hook (q : Hd) (n : Nat) : PySem.W.Hook where
  α := AlX
  obs := fun s => q.obsG n s.heap.get?
  val := fun _ => q.val
  says := fun _ h => ∃ K : PySem.W.Frag, q.Says h K
  of := fun _ s e => by
    have e : q.obsK s.heap.get? (He.frG s.heap.get? (asK2 s.heap.get? n [mainGlobals, cStatics])) = q.val := e
    generalize hK : He.frG s.heap.get? (asK2 s.heap.get? n [mainGlobals, cStatics]) = K at e
    have e1 := congrArg Prod.fst e
    have e2 := congrArg (fun z : AlX => z.2.1) e
    have e3 := congrArg (fun z : AlX => z.2.2) e
    have e1 : ((q.fs.all fun f => f K) && ((q.ds.all fun d => d.okB K) && ((q.ss.all fun d => d.okB K) && (q.ms.all fun x => codeB K (He.ga K x) && emptyT (s.heap.get? (tabA K (He.ga K x))))))) = true := e1
    obtain ⟨a1, e1⟩ := He.ba e1
    obtain ⟨a2, e1⟩ := He.ba e1
    obtain ⟨a3, a4⟩ := He.ba e1
    refine ⟨K, by rw [← hK]; exact He.frG_in, List.all_eq_true.mp a1, List.all_eq_true.mp a2, List.all_eq_true.mp a3, fun x hx => ?_, e2, e3⟩
    obtain ⟨b1, b2⟩ := He.ba (List.all_eq_true.mp a4 x hx)
    exact ⟨b1, emptyT_ok b2⟩
  keeps := fun _ _ _ ⟨K, c⟩ k => ⟨K, PySem.W.Frag.In.keeps c.kin k, c.fs, c.ds, c.ss, fun x hx => ⟨(c.ms x hx).1, k _ _ (c.ms x hx).2⟩, c.dk, c.sk⟩
theorem Hd.obs_eq {q : Hd} {n : Nat} {g : Addr → Option Obj} {s : Shared} (h : ∀ a, g a = s.heap.get? a) : q.obsG n g = (q.hook n).obs s := by
  obtain rfl : g = s.heap.get? := funext h
  rfl
section
variable {q : Hd} {h : Heap} {K : PySem.W.Frag}
theorem Hd.Says.fact (c : q.Says h K) (i : Nat) {f : PySem.W.Frag → Bool} (e : q.fs[i]? = some f := by rfl) : f K = true := c.fs f (List.mem_of_getElem? e)
theorem Hd.Says.df (c : q.Says h K) (i : Nat) {d : DefK} (e : q.ds[i]? = some d := by rfl) : ∃ fd, FunD K d.name d.qual d.params d.body d.scope d.dfl [] (d.ad.at_ K) fd := by
  have z := congrArg (fun l : List FnK => l[i]?) c.dk
  rw [List.getElem?_map, List.getElem?_map, e] at z
  exact DefK.funD (Option.some.inj z) (c.ds d (List.mem_of_getElem? e))
theorem Hd.Says.sf {P : Program} (c : q.Says h K) (i : Nat) {d : DefS} (hf : d.file = P.main.file) (e : q.ss[i]? = some d := by rfl) : ∃ fd, FunS P K d.name d.qual d.params d.body d.scope [] (d.ad.at_ K) fd (He.ga K d.cl) (celA K (d.ad.at_ K)) := by
  have z := congrArg (fun l : List FnKS => l[i]?) c.sk
  rw [List.getElem?_map, List.getElem?_map, e] at z
  exact DefS.funS hf (Option.some.inj z) (c.ss d (List.mem_of_getElem? e))
end
/-- the law's end -/
theorem walk_ofX {l : PySem.W.OpenLaw} {n k : Nat} {q : Program} {loose : List Str} {XP : (Str → Option Value) → Heap → Prop} {Q : Hd} {nk : Nat} {d : DefRec} {x : Str}
    (hn : l.most = some n) (hn2 : n ≤ sizeLine) (hdf : d.params.defaults = []) (hr : Room k callerA)
    (F : ∀ (w : World) (mg : Str → Option Value) (fa : Addr) (h : Heap) (K : PySem.W.Frag), Q.Says h K → h.Ns mainGlobals mg → mg d.name = some (.ref fa) →
      ∃ (fd : FuncData) (sp : Sp), (∀ (s : Shared) (u : Value), BindsTo s fd ⟨[u], []⟩ [(x, u)]) ∧
        (∀ (H : Hp) (a : Addr) (ns : List Int), ns.length ≤ n → (∀ y ∈ Q.ms, H (tabA K (He.ga K y)) = some (.tbl #[])) → SqL K H a (ns.map V.int) → sp [.ref a] H (fun v _ => v = .bl true) fun _ _ _ => False) ∧
        ∀ base : Heap, K.In base → base.Ns mainGlobals mg → (∀ y ∈ Q.ms, TabB base mg (codeA K (He.ga K y)) (tabA K (He.ga K y))) → FnOk l.prog w K mg base (L2.CX l.prog w) k fa fd [x] sp) :
    PySem.W.WalkO q loose XP (Q.hook nk).says l.row.toRowW d [] (fun f vs => PySem.call f vs) := by
  refine Att.attach_call hn hdf fun w s0 s1 mg mb fa o pm cd doc a vs ns G Y ho hd hcd hmg hobj hints hlen hg => ?_
  obtain ⟨K, c⟩ := Y
  obtain ⟨fd, sp, hb, hsp, hF⟩ := F w mg fa _ K c G.T.g hmg
  have mem : ∀ p ∈ Q.ms.map (fun y => (codeA K (He.ga K y), tabA K (He.ga K y))), ∃ y ∈ Q.ms, p = (codeA K (He.ga K y), tabA K (He.ga K y)) := fun p hp => by
    obtain ⟨y, hy, e⟩ := List.mem_map.mp hp
    exact ⟨y, hy, e.symm⟩
  refine LamX.law_callTs (cs := Q.ms.map fun y => (codeA K (He.ga K y), tabA K (He.ga K y))) c.kin G.T.g G.T.b G.T.builtins G.T.nolimit hg (fun p hp => ?_) (fun p hp => ?_) (fun p hp => ?_) G.T.bmain hobj hints (Nat.le_trans hlen hn2) hr
    (fun base b1 b2 b3 => hF base b1 b2 fun y hy => b3 (codeA K (He.ga K y), tabA K (He.ga K y)) (List.mem_map.mpr ⟨y, hy, rfl⟩)) hb (fun H hH hS => hsp H a ns hlen (fun y hy => hH (codeA K (He.ga K y), tabA K (He.ga K y)) (List.mem_map.mpr ⟨y, hy, rfl⟩)) hS) fun H e s' z => nofly z
  · obtain ⟨y, hy, rfl⟩ := mem p hp
    exact (c.ms y hy).2
  · obtain ⟨y, hy, rfl⟩ := mem p hp
    exact (codeB_ok (c.ms y hy).1).2.1
  · obtain ⟨y, hy, rfl⟩ := mem p hp
    exact (codeB_ok (c.ms y hy).1).2.2 _ c.kin
end DL
namespace DL
open PySem PySem.Spec PyProof.Rows L2
open LamX (TabB)
variable [LamTab]
/-- what is known of a def that makes lambdas -/
structure MkOk (K : PySem.W.Frag) (mg : Str → Option Value) (base : Heap) (q : Str) (f : Addr) : Prop where
  code : funCode K f = .ref (codeA K f)
  tb : TabB base mg (codeA K f) (tabA K f)
  mem : (tabA K f, q) ∈ LamTab.tbls K
  un : ∀ p ∈ LamTab.tbls K, p.1 = tabA K f → p.2 = q
theorem supCx_of {P : Program} {w : World} {K : PySem.W.Frag} {mg : Str → Option Value} {base : Heap} {N : List Str} {x qual first : Str} {params : Arguments} {body : List Stmt} {scope : Scope} {dvs : List V} {f cc Dc : Addr} {fd : FuncData} {cdv : Value} {A : Around} {outer : List Env} {s : Shared} {H : Hp} {E : XK}
    (F : FunS P K x qual params body scope dvs f fd Dc cc) (hc : ∃ cda : Addr, cdv = .ref cda ∧ ∃ ccl cdd vs ccs file tf, K.lookup cda = some ⟨ccl, cdd, .fields vs, ccs⟩ ∧ vs[2]? = some (.str file tf) ∧ ((P.main.file : Str) == file) = true)
    (top : (P.main.scope.names.lookup ("super" : Str)).isSome = false) (hm : mg "super" = none) (st : PySem.W.nsIn K cStatics "thirdparty.any" = some none)
    (h1 : scope.names.lookup ("super" : Str) = some .globalImplicit) (h2 : scope.names.lookup ("__class__" : Str) = some .free) (h3 : scope.names.lookup first = some .local) (h4 : N[0]? = some first) (h5 : ∃ ar : Arg, (params.posonlyargs ++ params.args).head? = some ar ∧ ar.arg = first) :
    SupCx (cxS (L2.CX P w) P w K mg base N qual scope f cdv cc A outer s H E) f Dc cc first := by
  obtain ⟨oc, od, dV, kV, doc, pm, an, cda, ct, osl, rfl, lk, _⟩ := F.ex
  obtain ⟨ar, a1, a2⟩ := h5
  obtain ⟨c1, e1, c2⟩ := hc
  subst e1
  obtain ⟨ccl, cdd, vs, ccs, file, tf, e2, e3, e4⟩ := c2
  exact ⟨rfl, h1, h2, rfl, F.cell, F.cls, ⟨oc, od, _, osl, ar, lk, a1, a2⟩, ⟨c1, ccl, cdd, vs, ccs, file, tf, rfl, e2, e3, e4⟩, top, hm, h4, h3, st⟩
/-! ### how lambdas bind -/
theorem lbind0 {t : LamT} (h1 : t.ps = []) (h2 : t.dds = [])
    (h : ∀ (q : Str) (body : Expr) (scope : Scope) (g : List (Str × Addr)) (pm cv ctv : Value), bindArgs { name := "<lambda>", qualname := q, params := t.params, body := .expr body, scope, globals := mainGlobals, closure := g, defaults := .none, kwdefaults := .none, doc := .none, pyModule := pm, annotations := none, code := cv, closureTuple := ctv, builtins := builtinsNs } ⟨[], []⟩ = pure [])
    (h' : ∀ (q : Str) (body : Expr) (scope : Scope) (g : List (Str × Addr)) (pm cv ctv : Value) (T : Addr), ∃ k : Option (Array Value) → Sem (List (Str × Value)), bindArgs { name := "<lambda>", qualname := q, params := t.params, body := .expr body, scope, globals := mainGlobals, closure := g, defaults := .ref T, kwdefaults := .none, doc := .none, pyModule := pm, annotations := none, code := cv, closureTuple := ctv, builtins := builtinsNs } ⟨[], []⟩ = seqItems? (.ref T) >>= k ∧ k (some #[]) = pure []) : LBind t := by
  intro q body scope g pm cv ctv us
  refine ⟨fun _ hl => ?_, fun T ud h3 h4 => ?_⟩
  · rw [h1] at hl
    obtain rfl : us = [] := List.eq_nil_of_length_eq_zero hl
    rw [h1]
    exact h q body scope g pm cv ctv
  · rw [h2] at h3
    obtain rfl : ud = [] := List.eq_nil_of_length_eq_zero h3
    rw [h1] at h4
    obtain rfl : us = [] := List.eq_nil_of_length_eq_zero h4
    rw [h1]
    exact h' q body scope g pm cv ctv T
theorem lbind1 {t : LamT} {x : Str} {n : Int} (h1 : t.ps = [x]) (h2 : t.dds = [n])
    (h' : ∀ (q : Str) (body : Expr) (scope : Scope) (g : List (Str × Addr)) (pm cv ctv : Value) (T : Addr) (u : Value), ∃ k : Option (Array Value) → Sem (List (Str × Value)), bindArgs { name := "<lambda>", qualname := q, params := t.params, body := .expr body, scope, globals := mainGlobals, closure := g, defaults := .ref T, kwdefaults := .none, doc := .none, pyModule := pm, annotations := none, code := cv, closureTuple := ctv, builtins := builtinsNs } ⟨[], []⟩ = seqItems? (.ref T) >>= k ∧ k (some #[u]) = pure [(x, u)]) : LBind t := by
  intro q body scope g pm cv ctv us
  refine ⟨fun hd _ => absurd (h2.symm.trans hd) (by simp), fun T ud h3 h4 => ?_⟩
  rw [h2] at h3
  rw [h1] at h4
  match ud, h3 with
  | [u], _ =>
    obtain rfl : us = [] := by
      cases us with
      | nil => rfl
      | cons a l => simp at h4
    rw [h1]
    exact h' q body scope g pm cv ctv T u
theorem lbind2 {t : LamT} {x : Str} (h1 : t.ps = [x]) (h2 : t.dds = [])
    (h : ∀ (q : Str) (body : Expr) (scope : Scope) (g : List (Str × Addr)) (pm cv ctv u : Value), bindArgs { name := "<lambda>", qualname := q, params := t.params, body := .expr body, scope, globals := mainGlobals, closure := g, defaults := .none, kwdefaults := .none, doc := .none, pyModule := pm, annotations := none, code := cv, closureTuple := ctv, builtins := builtinsNs } ⟨[u], []⟩ = pure [(x, u)])
    (h' : ∀ (q : Str) (body : Expr) (scope : Scope) (g : List (Str × Addr)) (pm cv ctv : Value) (T : Addr) (u : Value), ∃ k : Option (Array Value) → Sem (List (Str × Value)), bindArgs { name := "<lambda>", qualname := q, params := t.params, body := .expr body, scope, globals := mainGlobals, closure := g, defaults := .ref T, kwdefaults := .none, doc := .none, pyModule := pm, annotations := none, code := cv, closureTuple := ctv, builtins := builtinsNs } ⟨[u], []⟩ = seqItems? (.ref T) >>= k ∧ k (some #[]) = pure [(x, u)]) : LBind t := by
  intro q body scope g pm cv ctv us
  refine ⟨fun _ hl => ?_, fun T ud h3 h4 => ?_⟩
  · rw [h1] at hl
    match us, hl with
    | [u], _ => rw [h1]; exact h q body scope g pm cv ctv u
  · rw [h2] at h3
    obtain rfl : ud = [] := List.eq_nil_of_length_eq_zero h3
    rw [h1] at h4
    match us, h4 with
    | [u], _ => rw [h1]; exact h' q body scope g pm cv ctv T u
end DL
namespace DL
open PySem PySem.Spec PyProof.Rows L2
variable [LamTab]
section
variable {X : Cx} {k : Nat} {x mn : Str} {pos apos p2 : Pos}
/-- C.m(k = ..), a static method by keywords alone -/
theorem pd_smethK0 {ks : List Str} {kws : List Keyword} {tk : DA} {pl : Sem Bool} {G : DFn} (F : SMetK X.prog X.w X.K X.mg X.base k x mn 0 ks G) (hr : Room k X.A) (hkw : PDK X kws tk)
    (hks : (backToKw pos (keywordEach kws X.env)).filterMap (·.1) = ks := by rfl) (hall : (backToKw pos (keywordEach kws X.env)).all (·.1.isSome) = true := by rfl)
    (hg : Gl X x := by rfl) (hdb : (x == ("__debug__" : Str)) = false := by decide)
    (hpl : ((backTo pos (starEach [] X.env)).any (·.1) || (backToKw pos (keywordEach kws X.env)).any (·.1.isNone)) = false := by rfl)
    (ht : eval (.Call (.Attribute (.Name x p2) mn apos) [] kws pos) X.env = (do
      let ov ← eval (.Name x p2) X.env
      standAt apos.atName
      let (f, first) ← holding [ov] (getMethod ov mn pl)
      callWith pos f first (backTo pos (starEach [] X.env)) (backToKw pos (keywordEach kws X.env))) := by rfl) :
    PDE X (.Call (.Attribute (.Name x p2) mn apos) [] kws pos) (dFunK G 0 ks.length dNil tk) := by
  obtain ⟨C, pp, f, fd, ps, pl', dds, G0, hm, h1, h2, h3, h4, hk, hf, hb, rfl⟩ := F.ex
  intro S r m σ Q sa re q pins s I
  refine PySem.W.methodCall_KW (pl := pl) (ld_glob I hg hm ?_ hdb) ht
  refine getsm I h1 h2 h3 h4 fun s0 I0 => ?_
  refine PySem.W.callWith_KW0 (first := []) (h₀ := X.base) I0.ok.mod.kin hk hall (thn (hkw.run sa re (f := fun zs m3 => if ([] : List D).length = 0 ∧ zs.length = ks.length then _ else .stuck) q I0 pos) ?_) hpl
  rintro ws s2 ⟨zs, dzs, m2, U, st2, sa2, rdz, rz, I2, q2⟩
  refine ⟨I2.kIn, ?_⟩
  rw [hks]
  split at q2
  · rename_i hl
    dsimp only at q2
    split at q2
    · rename_i xs' hp
      exact run_fnK (us := []) (vs := []) (das := []) hf hr hb I2 sa2 .nil rdz .nil rz rfl hl.2 hp q2
    · exact q2.elim
  · exact q2.elim
end
end DL

namespace W
open PySem PySem.Spec L2 DL

def topS (i : Nat) : Stmt := PySem.Challenge.pw_bothgreen_k04_sums_and_order_of_ratios.main.body.getD i (.Pass ⟨0, 0, 0, 0⟩)

def lx_0 : Expr := exAt ((subS (stAt ((defBody (topS 31)).getD 1 (.Pass ⟨0, 0, 0, 0⟩)) [6])).getD 0 (.Constant .none 0 ⟨0, 0, 0, 0⟩)) [1]

def lamTab : Nat → LamT
  | 0 => ⟨(("law" : Str) ++ (".<locals>." : Str) ++ ("<lambda>" : Str)), lamP lx_0, lamB lx_0, lamS lx_0, [], [], ["_law_other_z", "_law_one_here"]⟩
  | _ => ⟨Str.empty, ⟨[], [], none, [], [], none, []⟩, .Constant .none 0 ⟨0, 0, 0, 0⟩, default, [], [], []⟩
instance : LamTab := ⟨lamTab, fun K => [(tabA K (He.ga K "law"), (("law" : Str) ++ (".<locals>." : Str) ++ ("<lambda>" : Str)))]⟩

def lr_law : List (Nat × List Nat) := [(0, [6, 5])]

/-- where the classes stand -/
structure Cs where
  cCycleError : Addr
  cInvalidRatio : Addr
  cMissing : Addr
  cNothingLeft : Addr
  cRatio : Addr

/-- different classes stand at different places -/
def Cs.Ok (c : Cs) : Prop := c.cCycleError ≠ c.cInvalidRatio ∧ c.cCycleError ≠ c.cMissing ∧ c.cInvalidRatio ≠ c.cMissing ∧ c.cCycleError ≠ c.cNothingLeft ∧ c.cInvalidRatio ≠ c.cNothingLeft ∧ c.cMissing ≠ c.cNothingLeft ∧ c.cCycleError ≠ c.cRatio ∧ c.cInvalidRatio ≠ c.cRatio ∧ c.cMissing ≠ c.cRatio ∧ c.cNothingLeft ≠ c.cRatio ∧ True

def nsCycleError : List Str := ["code"]
abbrev Cs.kCycleError (c : Cs) : Kl := ⟨c.cCycleError, nsCycleError⟩

def nsInvalidRatio : List Str := ["code", "given"]
abbrev Cs.kInvalidRatio (c : Cs) : Kl := ⟨c.cInvalidRatio, nsInvalidRatio⟩

def nsMissing : List Str := ["code"]
abbrev Cs.kMissing (c : Cs) : Kl := ⟨c.cMissing, nsMissing⟩

def nsNothingLeft : List Str := ["code"]
abbrev Cs.kNothingLeft (c : Cs) : Kl := ⟨c.cNothingLeft, nsNothingLeft⟩

def nsRatio : List Str := ["own_top", "own_bottom"]
abbrev Cs.kRatio (c : Cs) : Kl := ⟨c.cRatio, nsRatio⟩

def ans_Ratio__Ratio (c : Cs) : Ans := ⟨[], [(c.cRatio, true)]⟩

def ans_bool (c : Cs) : Ans := ⟨["bool"], []⟩

def ans_int (c : Cs) : Ans := ⟨["int", "bool"], []⟩

def ans_list (c : Cs) : Ans := ⟨["list"], []⟩

def ans_list_tuple (c : Cs) : Ans := ⟨["list", "tuple"], []⟩

def ans_str (c : Cs) : Ans := ⟨["str"], []⟩

def ans_tuple (c : Cs) : Ans := ⟨["tuple"], []⟩

/-- _law_begin (0 _law_script) -/
noncomputable def F_w_begin (c : Cs) : DFn := dFn 1 (dRet (dLoc (dCons (dFun gList (dCons (dSl (dVar 0) dNoPart (dPart (dC (.int 63)))) dNil)) (dCons (dC (.int 0)) (dCons (dC (.int 0)) (dCons (dBin gAdd (dC (.int 100050)) (dBin gMul (dC (.int 17)) (dFun gLen (dCons (dSl (dVar 0) dNoPart (dPart (dC (.int 63)))) dNil)))) dNil))))))

/-- _law_take (0 _law_bag, 1 _law_many, 2 _law_cell, 3 _law_digit, 4 _law_old) -/
noncomputable def F_w_take (c : Cs) : DFn := dFn 5 (dSeq (dIfS (dAndT (dTst (dBin gEq (dBin gIx (dVar 0) (dC (.int 2))) (dC (.int 0)))) (dTst (dBin gLt (dBin gIx (dVar 0) (dC (.int 1))) (dFun gLen (dCons (dBin gIx (dVar 0) (dC (.int 0))) dNil))))) (dSeq (dSet 2 (dFun gAbs (dCons (dBin gIx (dBin gIx (dVar 0) (dC (.int 0))) (dBin gIx (dVar 0) (dC (.int 1)))) dNil))) (dSeq (dPutI (dBin gAdd (dBin gIx (dVar 0) (dC (.int 1))) (dC (.int 1))) (dVar 0) (dC (.int 1))) (dIfS (dTst (dBin gGe (dVar 2) (dBin gPow (dC (.int 10)) (dC (.int 18))))) (dPutI (dVar 2) (dVar 0) (dC (.int 2))) (dPutI (dBin gMod (dFun gInt (dCons (dBin gAdd (dBin gAdd (dBin gMul (dBin gIx (dVar 0) (dC (.int 3))) (dC (.int 36919))) (dBin gMul (dBin gMod (dFun gInt (dCons (dVar 2) dNil)) (dC (.int 2147483563))) (dC (.int 7919)))) (dBin gIx (dVar 0) (dC (.int 1)))) dNil)) (dC (.int 2147483629))) (dVar 0) (dC (.int 3)))))) dSkip) (dSeq (dIfS (dTst (dBin gGt (dBin gIx (dVar 0) (dC (.int 2))) (dC (.int 0)))) (dSeq (dSet 3 (dBin gMod (dFun gInt (dCons (dBin gIx (dVar 0) (dC (.int 2))) dNil)) (dVar 1))) (dSeq (dPutI (dBin gDiv (dBin gIx (dVar 0) (dC (.int 2))) (dVar 1)) (dVar 0) (dC (.int 2))) (dRet (dVar 3)))) dSkip) (dSeq (dSet 4 (dBin gIx (dVar 0) (dC (.int 3)))) (dSeq (dPutI (dBin gMod (dFun gInt (dCons (dBin gAdd (dBin gAdd (dBin gMul (dVar 4) (dVar 4)) (dBin gMul (dVar 4) (dC (.int 29423)))) (dC (.int 90001))) dNil)) (dC (.int 2147483647))) (dVar 0) (dC (.int 3))) (dRet (dBin gMod (dFun gInt (dCons (dBin gAdd (dBin gDiv (dBin gIx (dVar 0) (dC (.int 3))) (dC (.int 53))) (dBin gMul (dBin gMod (dFun gInt (dCons (dBin gIx (dVar 0) (dC (.int 3))) dNil)) (dC (.int 7907))) (dC (.int 179)))) dNil)) (dVar 1)))))))

/-- _law_one (0 _law_bag, 1 _law_row) -/
noncomputable def F_w_one (c : Cs) : DFn := dFn 2 (dRet (dBin gIx (dVar 1) (dFun (padF 2 [] (F_w_take c)) (dCons (dVar 0) (dCons (dFun gLen (dCons (dVar 1) dNil)) dNil)))))

noncomputable def T_w_divisor_1 (c : Cs) : DT := (dTst (dBin gGt (dVar 1) (dC (.int 0))))
theorem T_w_divisor_1_ap (c : Cs) (e : En) (m : Mu) : T_w_divisor_1 c e m = (dTst (dBin gGt (dVar 1) (dC (.int 0)))) e m := rfl

noncomputable def B_w_divisor_1 (c : Cs) : DS := (dPar 0 1 (dCons (dVar 1) (dCons (dBin gMod (dFun gInt (dCons (dVar 0) dNil)) (dVar 1)) dNil)))
theorem B_w_divisor_1_ap (c : Cs) (e : En) (m : Mu) : B_w_divisor_1 c e m = (dPar 0 1 (dCons (dVar 1) (dCons (dBin gMod (dFun gInt (dCons (dVar 0) dNil)) (dVar 1)) dNil))) e m := rfl

/-- _law_divisor (0 _law_a, 1 _law_b) -/
noncomputable def F_w_divisor (c : Cs) : DFn := dFn 2 (dSeq (dWhile (T_w_divisor_1 c) (B_w_divisor_1 c)) (dRet (dVar 0)))

/-- _law_frac (0 _law_a, 1 _law_b, 2 _law_by) -/
noncomputable def F_w_frac (c : Cs) : DFn := dFn 3 (dSeq (dSet 2 (dFun (padF 2 [] (F_w_divisor c)) (dCons (dFun gAbs (dCons (dVar 0) dNil)) (dCons (dFun gAbs (dCons (dVar 1) dNil)) dNil)))) (dSeq (dSet 2 (dIf (dTst (dBin gGt (dVar 1) (dC (.int 0)))) (dVar 2) (dBin gSub (dC (.int 0)) (dVar 2)))) (dRet (dTup (dCons (dBin gDiv (dVar 0) (dVar 2)) (dCons (dBin gDiv (dVar 1) (dVar 2)) dNil))))))

/-- _law_any_frac (0 _law_bag, 1 _law_b, 2 _law_a) -/
noncomputable def F_w_any_frac (c : Cs) : DFn := dFn 3 (dSeq (dSet 1 (dBin gAdd (dC (.int 1)) (dFun (padF 2 [] (F_w_take c)) (dCons (dVar 0) (dCons (dFun (padF 2 [] (F_w_one c)) (dCons (dVar 0) (dCons (dLst (dCons (dC (.int 1)) (dCons (dC (.int 4)) (dCons (dC (.int 12)) (dCons (dC (.int 1000)) (dCons (dBin gPow (dC (.int 10)) (dC (.int 18))) dNil)))))) dNil))) dNil))))) (dSeq (dSet 2 (dFun (padF 2 [] (F_w_take c)) (dCons (dVar 0) (dCons (dFun (padF 2 [] (F_w_one c)) (dCons (dVar 0) (dCons (dLst (dCons (dC (.int 2)) (dCons (dC (.int 7)) (dCons (dBin gAdd (dBin gMul (dC (.int 3)) (dVar 1)) (dC (.int 1))) (dCons (dBin gPow (dC (.int 10)) (dC (.int 19))) dNil))))) dNil))) dNil)))) (dRet (dFun (padF 2 [] (F_w_frac c)) (dCons (dFun (padF 2 [] (F_w_one c)) (dCons (dVar 0) (dCons (dLst (dCons (dVar 2) (dCons (dVar 2) (dCons (dBin gSub (dC (.int 0)) (dVar 2)) dNil)))) dNil))) (dCons (dVar 1) dNil))))))

/-- is_whole (0 value) -/
noncomputable def F_is_whole (c : Cs) : DFn := dFn 1 (dRet (dAnd (dIsi (ans_int c) (dVar 0)) (dNot (dIsi (ans_bool c) (dVar 0)))))

/-- CycleError.__init__ (0 self, 1 code) -/
noncomputable def F_CycleErrorD_initD (c : Cs) : DFn := dFn 2 (dSeq (dSupB [c.cInvalidRatio] (dCons (dVar 1) dNil)) (dPutX [c.cInvalidRatio] "code" (dVar 1) (dVar 0)))

/-- InvalidRatio.__init__ (0 self, 1 given) -/
noncomputable def F_InvalidRatioD_initD (c : Cs) : DFn := dFn 2 (dSeq (dSup [c.cInvalidRatio] (padF 2 [] (F_CycleErrorD_initD c)) (dCons (dC (.str "InvalidRatio")) dNil)) (dPutX [c.cInvalidRatio] "given" (dVar 1) (dVar 0)))

noncomputable def T_common_divisor_1 (c : Cs) : DT := (dTst (dBin gNe (dVar 1) (dC (.int 0))))
theorem T_common_divisor_1_ap (c : Cs) (e : En) (m : Mu) : T_common_divisor_1 c e m = (dTst (dBin gNe (dVar 1) (dC (.int 0)))) e m := rfl

noncomputable def B_common_divisor_1 (c : Cs) : DS := (dPar 0 1 (dCons (dVar 1) (dCons (dBin gMod (dVar 0) (dVar 1)) dNil)))
theorem B_common_divisor_1_ap (c : Cs) (e : En) (m : Mu) : B_common_divisor_1 c e m = (dPar 0 1 (dCons (dVar 1) (dCons (dBin gMod (dVar 0) (dVar 1)) dNil))) e m := rfl

/-- common_divisor (0 one, 1 other) -/
noncomputable def F_common_divisor (c : Cs) : DFn := dFn 2 (dSeq (dWhile (T_common_divisor_1 c) (B_common_divisor_1 c)) (dRet (dVar 0)))

/-- Ratio.__init__ (0 self, 1 top, 2 bottom, 3 divisor) -/
noncomputable def F_RatioD_initD (c : Cs) : DFn := dFn 4 (dSeq (dIfS (dOrT (dNotT (dTst (dFun (padF 1 [] (F_is_whole c)) (dCons (dVar 1) dNil)))) (dOrT (dNotT (dTst (dFun (padF 1 [] (F_is_whole c)) (dCons (dVar 2) dNil)))) (dTst (dBin gEq (dVar 2) (dC (.int 0)))))) (dRaise c.cInvalidRatio (padF 2 [] (F_InvalidRatioD_initD c)) (dCons (dTup (dCons (dVar 1) (dCons (dVar 2) dNil))) dNil)) dSkip) (dSeq (dSet 3 (dFun (padF 2 [] (F_common_divisor c)) (dCons (dFun gAbs (dCons (dVar 1) dNil)) (dCons (dFun gAbs (dCons (dVar 2) dNil)) dNil)))) (dSeq (dSet 3 (dIf (dTst (dBin gLt (dVar 2) (dC (.int 0)))) (dNegI (dVar 3)) (dVar 3))) (dSeq (dPutF [c.cRatio] "own_top" (dBin gDiv (dVar 1) (dVar 3)) (dVar 0)) (dPutF [c.cRatio] "own_bottom" (dBin gDiv (dVar 2) (dVar 3)) (dVar 0))))))

/-- _law_made (0 _law_p) -/
noncomputable def F_w_made (c : Cs) : DFn := dFn 1 (dRet (dMake c.cRatio (padF 3 [] (F_RatioD_initD c)) (dCons (dBin gIx (dVar 0) (dC (.int 0))) (dCons (dBin gIx (dVar 0) (dC (.int 1))) dNil))))

/-- Ratio.bottom (0 self) -/
noncomputable def F_Ratio_bottom (c : Cs) : DFn := dFn 1 (dRet (dFld [(c.kRatio, 1)] (dVar 0)))

/-- Ratio.top (0 self) -/
noncomputable def F_Ratio_top (c : Cs) : DFn := dFn 1 (dRet (dFld [(c.kRatio, 0)] (dVar 0)))

/-- Ratio.__mul__ (0 self, 1 other) -/
noncomputable def F_RatioD_mulD (c : Cs) : DFn := dFn 2 (dRet (dMake c.cRatio (padF 3 [] (F_RatioD_initD c)) (dCons (dBin gMul (dFld [(c.kRatio, 0)] (dVar 0)) (dProp [(c.kRatio, padF 1 [] (F_Ratio_top c))] (dVar 1))) (dCons (dBin gMul (dFld [(c.kRatio, 1)] (dVar 0)) (dProp [(c.kRatio, padF 1 [] (F_Ratio_bottom c))] (dVar 1))) dNil))))

/-- _law_parts (0 _law_found) -/
noncomputable def F_w_parts (c : Cs) : DFn := dFn 1 (dRet (dIf (dTst (dIsi (ans_Ratio__Ratio c) (dVar 0))) (dTup (dCons (dProp [(c.kRatio, padF 1 [] (F_Ratio_top c))] (dVar 0)) (dCons (dProp [(c.kRatio, padF 1 [] (F_Ratio_bottom c))] (dVar 0)) dNil))) (dC .non)))

/-- Ratio.__sub__ (0 self, 1 other) -/
noncomputable def F_RatioD_subD (c : Cs) : DFn := dFn 2 (dRet (dMake c.cRatio (padF 3 [] (F_RatioD_initD c)) (dCons (dBin gSub (dBin gMul (dFld [(c.kRatio, 0)] (dVar 0)) (dProp [(c.kRatio, padF 1 [] (F_Ratio_bottom c))] (dVar 1))) (dBin gMul (dProp [(c.kRatio, padF 1 [] (F_Ratio_top c))] (dVar 1)) (dFld [(c.kRatio, 1)] (dVar 0)))) (dCons (dBin gMul (dFld [(c.kRatio, 1)] (dVar 0)) (dProp [(c.kRatio, padF 1 [] (F_Ratio_bottom c))] (dVar 1))) dNil))))

/-- Ratio.__add__ (0 self, 1 other) -/
noncomputable def F_RatioD_addD (c : Cs) : DFn := dFn 2 (dRet (dMake c.cRatio (padF 3 [] (F_RatioD_initD c)) (dCons (dBin gAdd (dBin gMul (dFld [(c.kRatio, 0)] (dVar 0)) (dProp [(c.kRatio, padF 1 [] (F_Ratio_bottom c))] (dVar 1))) (dBin gMul (dProp [(c.kRatio, padF 1 [] (F_Ratio_top c))] (dVar 1)) (dFld [(c.kRatio, 1)] (dVar 0)))) (dCons (dBin gMul (dFld [(c.kRatio, 1)] (dVar 0)) (dProp [(c.kRatio, padF 1 [] (F_Ratio_bottom c))] (dVar 1))) dNil))))

/-- _law_times (0 _law_p, 1 _law_q) -/
noncomputable def F_w_times (c : Cs) : DFn := dFn 2 (dRet (dFun (padF 2 [] (F_w_frac c)) (dCons (dBin gMul (dBin gIx (dVar 0) (dC (.int 0))) (dBin gIx (dVar 1) (dC (.int 0)))) (dCons (dBin gMul (dBin gIx (dVar 0) (dC (.int 1))) (dBin gIx (dVar 1) (dC (.int 1)))) dNil))))

/-- _law_minus (0 _law_p, 1 _law_q) -/
noncomputable def F_w_minus (c : Cs) : DFn := dFn 2 (dRet (dFun (padF 2 [] (F_w_frac c)) (dCons (dBin gSub (dBin gMul (dBin gIx (dVar 0) (dC (.int 0))) (dBin gIx (dVar 1) (dC (.int 1)))) (dBin gMul (dBin gIx (dVar 1) (dC (.int 0))) (dBin gIx (dVar 0) (dC (.int 1))))) (dCons (dBin gMul (dBin gIx (dVar 0) (dC (.int 1))) (dBin gIx (dVar 1) (dC (.int 1)))) dNil))))

/-- _law_plus (0 _law_p, 1 _law_q) -/
noncomputable def F_w_plus (c : Cs) : DFn := dFn 2 (dRet (dFun (padF 2 [] (F_w_frac c)) (dCons (dBin gAdd (dBin gMul (dBin gIx (dVar 0) (dC (.int 0))) (dBin gIx (dVar 1) (dC (.int 1)))) (dBin gMul (dBin gIx (dVar 1) (dC (.int 0))) (dBin gIx (dVar 0) (dC (.int 1))))) (dCons (dBin gMul (dBin gIx (dVar 0) (dC (.int 1))) (dBin gIx (dVar 1) (dC (.int 1)))) dNil))))

/-- _law_like (0 _law_found, 1 _law_due, 2 _law_one_here, 3 _law_two) -/
noncomputable def F_w_like (c : Cs) : Nat → DFn
  | 0 => fun _ _ => .stuck
  | n + 1 => dFn 4 (dSeq (dIfS (dOrT (dTst (dBin gIsN (dVar 1) (dC .non))) (dTst (dBin gIsN (dVar 0) (dC .non)))) (dRet (dAnd (dBin gIsN (dVar 1) (dC .non)) (dBin gIsN (dVar 0) (dC .non)))) dSkip) (dSeq (dIfS (dTst (dIsi (ans_list_tuple c) (dVar 1))) (dSeq (dIfS (dOrT (dTst (dBin gNe (dIsi (ans_list c) (dVar 0)) (dIsi (ans_list c) (dVar 1)))) (dTst (dBin gNe (dIsi (ans_tuple c) (dVar 0)) (dIsi (ans_tuple c) (dVar 1))))) (dRet (dC (.bl false))) dSkip) (dRet (dAnd (dBin gEq (dFun gLen (dCons (dVar 0) dNil)) (dFun gLen (dCons (dVar 1) dNil))) (dFun gAll (dCons (dComp (dItZ (dCons (dVar 0) (dCons (dVar 1) dNil))) (dTupG 2 (dGcons (dName 2) (dGcons (dName 3) dGnil))) dYes (dFun (padF 2 [] (F_w_like c n)) (dCons (dVar 2) (dCons (dVar 3) dNil))) [2, 3]) dNil))))) dSkip) (dSeq (dIfS (dOrT (dTst (dBin gNe (dIsi (ans_bool c) (dVar 0)) (dIsi (ans_bool c) (dVar 1)))) (dTst (dBin gNe (dIsi (ans_int c) (dVar 0)) (dIsi (ans_int c) (dVar 1))))) (dRet (dC (.bl false))) dSkip) (dRet (dAnd (dBin gEq (dIsi (ans_str c) (dVar 0)) (dIsi (ans_str c) (dVar 1))) (dBin gEq (dVar 0) (dVar 1)))))))

/-- _law_less (0 _law_p, 1 _law_q) -/
noncomputable def F_w_less (c : Cs) : DFn := dFn 2 (dRet (dBin gLt (dBin gMul (dBin gIx (dVar 0) (dC (.int 0))) (dBin gIx (dVar 1) (dC (.int 1)))) (dBin gMul (dBin gIx (dVar 1) (dC (.int 0))) (dBin gIx (dVar 0) (dC (.int 1))))))

/-- Ratio.is_below (0 self, 1 other) -/
noncomputable def F_Ratio_is_below (c : Cs) : DFn := dFn 2 (dRet (dBin gLt (dBin gMul (dFld [(c.kRatio, 0)] (dVar 0)) (dProp [(c.kRatio, padF 1 [] (F_Ratio_bottom c))] (dVar 1))) (dBin gMul (dProp [(c.kRatio, padF 1 [] (F_Ratio_top c))] (dVar 1)) (dFld [(c.kRatio, 1)] (dVar 0)))))

noncomputable def GK_Ratio_is_below_0_other (c : Cs) : DFn := fun ds m => match pick [0, 1] (ds ++ []) with
  | some xs => F_Ratio_is_below c xs m
  | none => .stuck

/-- Ratio.__bool__ (0 self) -/
noncomputable def F_RatioD_boolD (c : Cs) : DFn := dFn 1 (dRet (dFun gBool (dCons (dFld [(c.kRatio, 0)] (dVar 0)) dNil)))

/-- Ratio.over (0 self, 1 other) -/
noncomputable def F_Ratio_over (c : Cs) : DFn := dFn 2 (dSeq (dIfS (dNotT (dTrO [(c.kRatio, (padF 1 [] (F_RatioD_boolD c)))] (dVar 1))) (dRaise c.cInvalidRatio (padF 2 [] (F_InvalidRatioD_initD c)) (dCons (dVar 1) dNil)) dSkip) (dRet (dMake c.cRatio (padF 3 [] (F_RatioD_initD c)) (dCons (dBin gMul (dFld [(c.kRatio, 0)] (dVar 0)) (dProp [(c.kRatio, padF 1 [] (F_Ratio_bottom c))] (dVar 1))) (dCons (dBin gMul (dFld [(c.kRatio, 1)] (dVar 0)) (dProp [(c.kRatio, padF 1 [] (F_Ratio_top c))] (dVar 1))) dNil)))))

noncomputable def GK_Ratio_over_0_other (c : Cs) : DFn := fun ds m => match pick [0, 1] (ds ++ []) with
  | some xs => F_Ratio_over c xs m
  | none => .stuck

/-- lambda 0 (0 _law_other_z, 1 _law_one_here) -/
noncomputable def L_0 (c : Cs) : DFn := fun ds m => (dMeth [(c.kRatio, padF 2 [] (F_Ratio_over c))] (dVar 1) (dCons (dVar 0) dNil)) (ds.map some) m
theorem L_0_ap (c : Cs) (ds : List D) (m : Mu) : L_0 c ds m = (dMeth [(c.kRatio, padF 2 [] (F_Ratio_over c))] (dVar 1) (dCons (dVar 0) dNil)) (ds.map some) m := rfl

noncomputable def LT0 (c : Cs) : List (Nat × DFn) := [(0, L_0 c)]

/-- _law_field (0 _law_e) -/
noncomputable def F_w_field (c : Cs) : DFn := fun ds m => noExcR (dFn 1 (dSeq (dIfS (dTst (dBin gIn (dXf [c.cInvalidRatio] "code" (dVar 0)) (dLst (dCons (dC (.str "InvalidLine")) (dCons (dC (.str "InvalidFact")) dNil))))) (dRet (dTup (dCons (dXf [] "at" (dVar 0)) dNil))) dSkip) (dSeq (dIfS (dTst (dBin gIn (dXf [c.cInvalidRatio] "code" (dVar 0)) (dLst (dCons (dC (.str "DuplicateName")) (dCons (dC (.str "TooShort")) (dCons (dC (.str "UnknownName")) dNil)))))) (dRet (dTup (dCons (dXf [] "name" (dVar 0)) dNil))) dSkip) (dSeq (dIfS (dTst (dBin gIn (dXf [c.cInvalidRatio] "code" (dVar 0)) (dLst (dCons (dC (.str "InvalidCommand")) (dCons (dC (.str "InvalidText")) dNil))))) (dRet (dIf (dTst (dBin gEq (dXf [c.cInvalidRatio] "code" (dVar 0)) (dC (.str "InvalidCommand")))) (dTup (dCons (dXf [] "index" (dVar 0)) dNil)) (dTup (dCons (dXf [] "line" (dVar 0)) dNil)))) dSkip) (dSeq (dIfS (dTst (dBin gIn (dXf [c.cInvalidRatio] "code" (dVar 0)) (dLst (dCons (dC (.str "TooMany")) (dCons (dC (.str "Full")) dNil))))) (dRet (dIf (dTst (dBin gEq (dXf [c.cInvalidRatio] "code" (dVar 0)) (dC (.str "TooMany")))) (dTup (dCons (dXf [] "most" (dVar 0)) dNil)) (dTup (dCons (dXf [] "limit" (dVar 0)) dNil)))) dSkip) (dSeq (dIfS (dTst (dBin gIn (dXf [c.cInvalidRatio] "code" (dVar 0)) (dLst (dCons (dC (.str "Contradiction")) (dCons (dC (.str "Unbounded")) dNil))))) (dRet (dIf (dTst (dBin gEq (dXf [c.cInvalidRatio] "code" (dVar 0)) (dC (.str "Contradiction")))) (dTup (dCons (dXf [] "kind" (dVar 0)) dNil)) (dTup (dCons (dXf [] "kind" (dVar 0)) (dCons (dXf [] "name" (dVar 0)) dNil))))) dSkip) (dRet (dIf (dTst (dBin gEq (dXf [c.cInvalidRatio] "code" (dVar 0)) (dC (.str "NothingLeft")))) (dTup dNil) (dTup (dCons (dXf [c.cInvalidRatio] "given" (dVar 0)) dNil))))))))) ds m)

noncomputable def B_w_try_1 (c : Cs) : DS := (dRet (dTup (dCons (dC (.str "")) (dCons (dAsk (LT0 c) 0 dNil) dNil))))
theorem B_w_try_1_ap (c : Cs) (e : En) (m : Mu) : B_w_try_1 c e m = (dRet (dTup (dCons (dC (.str "")) (dCons (dAsk (LT0 c) 0 dNil) dNil)))) e m := rfl

noncomputable def B_w_try_2 (c : Cs) : DS := (dRet (dTup (dCons (dXf [c.cInvalidRatio] "code" (dVar 1)) (dCons (dFun (padF 1 [] (F_w_field c)) (dCons (dVar 1) dNil)) dNil))))
theorem B_w_try_2_ap (c : Cs) (e : En) (m : Mu) : B_w_try_2 c e m = (dRet (dTup (dCons (dXf [c.cInvalidRatio] "code" (dVar 1)) (dCons (dFun (padF 1 [] (F_w_field c)) (dCons (dVar 1) dNil)) dNil)))) e m := rfl

/-- _law_try (0 _law_ask, 1 _law_e) -/
noncomputable def F_w_try (c : Cs) : DFn := dFn 2 (dTryAs [c.cInvalidRatio] 1 (B_w_try_1 c) (B_w_try_2 c))

/-- _law_over (0 _law_p, 1 _law_q) -/
noncomputable def F_w_over (c : Cs) : DFn := dFn 2 (dRet (dFun (padF 2 [] (F_w_frac c)) (dCons (dBin gMul (dBin gIx (dVar 0) (dC (.int 0))) (dBin gIx (dVar 1) (dC (.int 1)))) (dCons (dBin gMul (dBin gIx (dVar 0) (dC (.int 1))) (dBin gIx (dVar 1) (dC (.int 0)))) dNil))))

/-- Ratio.__eq__ (0 self, 1 other) -/
noncomputable def F_RatioD_eqD (c : Cs) : DFn := dFn 2 (dRet (dAnd (dIsi (ans_Ratio__Ratio c) (dVar 1)) (dAnd (dBin gEq (dFld [(c.kRatio, 0)] (dVar 0)) (dProp [(c.kRatio, padF 1 [] (F_Ratio_top c))] (dVar 1))) (dBin gEq (dFld [(c.kRatio, 1)] (dVar 0)) (dProp [(c.kRatio, padF 1 [] (F_Ratio_bottom c))] (dVar 1))))))

noncomputable def B_law_1 (c : Cs) (g : List (Str × Addr)) : DS := (dSeq (dPar 3 4 (dCons (dFun (padF 1 [] (F_w_any_frac c)) (dCons (dVar 1) dNil)) (dCons (dFun (padF 1 [] (F_w_any_frac c)) (dCons (dVar 1) dNil)) dNil))) (dSeq (dSet 4 (dIf (dTst (dBin gEq (dFun (padF 2 [] (F_w_take c)) (dCons (dVar 1) (dCons (dC (.int 6)) dNil))) (dC (.int 0)))) (dVar 3) (dVar 4))) (dSeq (dAsg (dTup (dCons (dFun (padF 1 [] (F_w_made c)) (dCons (dVar 3) dNil)) (dCons (dFun (padF 1 [] (F_w_made c)) (dCons (dVar 4) dNil)) dNil))) (dTupG 2 (dGcons (dName 5) (dGcons (dName 6) dGnil)))) (dSeq (dSet 7 (dLst (dCons (dFun (padF 1 [] (F_w_parts c)) (dCons (dBin (dOwn2 c.cRatio (padF 2 [] (F_RatioD_addD c))) (dVar 5) (dVar 6)) dNil)) (dCons (dFun (padF 1 [] (F_w_parts c)) (dCons (dBin (dOwn2 c.cRatio (padF 2 [] (F_RatioD_subD c))) (dVar 5) (dVar 6)) dNil)) (dCons (dFun (padF 1 [] (F_w_parts c)) (dCons (dBin (dOwn2 c.cRatio (padF 2 [] (F_RatioD_mulD c))) (dVar 5) (dVar 6)) dNil)) dNil))))) (dSeq (dIfS (dNotT (dTst (dFun (padF 2 [] (F_w_like c 8)) (dCons (dVar 7) (dCons (dLst (dCons (dFun (padF 2 [] (F_w_plus c)) (dCons (dVar 3) (dCons (dVar 4) dNil))) (dCons (dFun (padF 2 [] (F_w_minus c)) (dCons (dVar 3) (dCons (dVar 4) dNil))) (dCons (dFun (padF 2 [] (F_w_times c)) (dCons (dVar 3) (dCons (dVar 4) dNil))) dNil)))) dNil))))) (dRet (dC (.bl false))) dSkip) (dSeq (dIfS (dNotT (dTst (dFun (padF 2 [] (F_w_like c 8)) (dCons (dLst (dCons (dMeth [(c.kRatio, padF 2 [] (F_Ratio_is_below c))] (dVar 5) (dCons (dVar 6) dNil)) (dCons (dMethK [(c.kRatio, GK_Ratio_is_below_0_other c)] 0 1 (dVar 6) dNil (dCons (dVar 5) dNil)) dNil))) (dCons (dLst (dCons (dFun (padF 2 [] (F_w_less c)) (dCons (dVar 3) (dCons (dVar 4) dNil))) (dCons (dFun (padF 2 [] (F_w_less c)) (dCons (dVar 4) (dCons (dVar 3) dNil))) dNil))) dNil))))) (dRet (dC (.bl false))) dSkip) (dSeq (dAsg (dFunL lr_law g (padF 1 [] (F_w_try c)) (dCons (dLam 0 (cloFrom g (LamTab.tab 0).scope.names [])) dNil)) (dTupG 2 (dGcons (dName 8) (dGcons (dName 9) dGnil)))) (dSeq (dIfS (dAndT (dTst (dBin gNe (dBin gIx (dVar 4) (dC (.int 0))) (dC (.int 0)))) (dOrT (dTst (dBin gNe (dVar 8) (dC (.str "")))) (dNotT (dTst (dFun (padF 2 [] (F_w_like c 8)) (dCons (dFun (padF 1 [] (F_w_parts c)) (dCons (dVar 9) dNil)) (dCons (dFun (padF 2 [] (F_w_over c)) (dCons (dVar 3) (dCons (dVar 4) dNil))) dNil))))))) (dRet (dC (.bl false))) dSkip) (dSeq (dIfS (dAndT (dTst (dBin gEq (dBin gIx (dVar 4) (dC (.int 0))) (dC (.int 0)))) (dOrT (dTst (dBin gNe (dVar 8) (dC (.str "InvalidRatio")))) (dTst (dBin (orD (dOwnEq true [(c.kRatio, (padF 2 [] (F_RatioD_eqD c)), [(.prim "tuple")])]) (gNeX [(c.kRatio, (padF 2 [] (F_RatioD_eqD c)), [(.own c.cRatio), (.prim "tuple")])] 5)) (dVar 9) (dTup (dCons (dVar 6) dNil)))))) (dRet (dC (.bl false))) dSkip) (dSeq (dIfS (dNotT (dTst (dFun (padF 2 [] (F_w_like c 8)) (dCons (dLst (dCons (dFun (padF 1 [] (F_w_parts c)) (dCons (dVar 5) dNil)) (dCons (dFun (padF 1 [] (F_w_parts c)) (dCons (dVar 6) dNil)) dNil))) (dCons (dLst (dCons (dVar 3) (dCons (dVar 4) dNil))) dNil))))) (dRet (dC (.bl false))) dSkip) (dSeq (dSet 10 (dFun (padF 1 [] (F_w_made c)) (dCons (dFun (padF 1 [] (F_w_any_frac c)) (dCons (dVar 1) dNil)) dNil))) (dSeq (dIfS (dTst (dBin (dOwnEq true [(c.kRatio, (padF 2 [] (F_RatioD_eqD c)), [(.own c.cRatio)])]) (dBin (dOwn2 c.cRatio (padF 2 [] (F_RatioD_mulD c))) (dVar 5) (dBin (dOwn2 c.cRatio (padF 2 [] (F_RatioD_addD c))) (dVar 6) (dVar 10))) (dBin (dOwn2 c.cRatio (padF 2 [] (F_RatioD_addD c))) (dBin (dOwn2 c.cRatio (padF 2 [] (F_RatioD_mulD c))) (dVar 5) (dVar 6)) (dBin (dOwn2 c.cRatio (padF 2 [] (F_RatioD_mulD c))) (dVar 5) (dVar 10))))) (dRet (dC (.bl false))) dSkip) (dIfS (dTst (dBin (dOwnEq true [(c.kRatio, (padF 2 [] (F_RatioD_eqD c)), [(.own c.cRatio)])]) (dBin (dOwn2 c.cRatio (padF 2 [] (F_RatioD_subD c))) (dVar 5) (dVar 5)) (dMake c.cRatio (padF 3 [.int 1] (F_RatioD_initD c)) (dCons (dC (.int 0)) dNil)))) (dRet (dC (.bl false))) dSkip)))))))))))))
theorem B_law_1_ap (c : Cs) (g : List (Str × Addr)) (e : En) (m : Mu) : B_law_1 c g e m = (dSeq (dPar 3 4 (dCons (dFun (padF 1 [] (F_w_any_frac c)) (dCons (dVar 1) dNil)) (dCons (dFun (padF 1 [] (F_w_any_frac c)) (dCons (dVar 1) dNil)) dNil))) (dSeq (dSet 4 (dIf (dTst (dBin gEq (dFun (padF 2 [] (F_w_take c)) (dCons (dVar 1) (dCons (dC (.int 6)) dNil))) (dC (.int 0)))) (dVar 3) (dVar 4))) (dSeq (dAsg (dTup (dCons (dFun (padF 1 [] (F_w_made c)) (dCons (dVar 3) dNil)) (dCons (dFun (padF 1 [] (F_w_made c)) (dCons (dVar 4) dNil)) dNil))) (dTupG 2 (dGcons (dName 5) (dGcons (dName 6) dGnil)))) (dSeq (dSet 7 (dLst (dCons (dFun (padF 1 [] (F_w_parts c)) (dCons (dBin (dOwn2 c.cRatio (padF 2 [] (F_RatioD_addD c))) (dVar 5) (dVar 6)) dNil)) (dCons (dFun (padF 1 [] (F_w_parts c)) (dCons (dBin (dOwn2 c.cRatio (padF 2 [] (F_RatioD_subD c))) (dVar 5) (dVar 6)) dNil)) (dCons (dFun (padF 1 [] (F_w_parts c)) (dCons (dBin (dOwn2 c.cRatio (padF 2 [] (F_RatioD_mulD c))) (dVar 5) (dVar 6)) dNil)) dNil))))) (dSeq (dIfS (dNotT (dTst (dFun (padF 2 [] (F_w_like c 8)) (dCons (dVar 7) (dCons (dLst (dCons (dFun (padF 2 [] (F_w_plus c)) (dCons (dVar 3) (dCons (dVar 4) dNil))) (dCons (dFun (padF 2 [] (F_w_minus c)) (dCons (dVar 3) (dCons (dVar 4) dNil))) (dCons (dFun (padF 2 [] (F_w_times c)) (dCons (dVar 3) (dCons (dVar 4) dNil))) dNil)))) dNil))))) (dRet (dC (.bl false))) dSkip) (dSeq (dIfS (dNotT (dTst (dFun (padF 2 [] (F_w_like c 8)) (dCons (dLst (dCons (dMeth [(c.kRatio, padF 2 [] (F_Ratio_is_below c))] (dVar 5) (dCons (dVar 6) dNil)) (dCons (dMethK [(c.kRatio, GK_Ratio_is_below_0_other c)] 0 1 (dVar 6) dNil (dCons (dVar 5) dNil)) dNil))) (dCons (dLst (dCons (dFun (padF 2 [] (F_w_less c)) (dCons (dVar 3) (dCons (dVar 4) dNil))) (dCons (dFun (padF 2 [] (F_w_less c)) (dCons (dVar 4) (dCons (dVar 3) dNil))) dNil))) dNil))))) (dRet (dC (.bl false))) dSkip) (dSeq (dAsg (dFunL lr_law g (padF 1 [] (F_w_try c)) (dCons (dLam 0 (cloFrom g (LamTab.tab 0).scope.names [])) dNil)) (dTupG 2 (dGcons (dName 8) (dGcons (dName 9) dGnil)))) (dSeq (dIfS (dAndT (dTst (dBin gNe (dBin gIx (dVar 4) (dC (.int 0))) (dC (.int 0)))) (dOrT (dTst (dBin gNe (dVar 8) (dC (.str "")))) (dNotT (dTst (dFun (padF 2 [] (F_w_like c 8)) (dCons (dFun (padF 1 [] (F_w_parts c)) (dCons (dVar 9) dNil)) (dCons (dFun (padF 2 [] (F_w_over c)) (dCons (dVar 3) (dCons (dVar 4) dNil))) dNil))))))) (dRet (dC (.bl false))) dSkip) (dSeq (dIfS (dAndT (dTst (dBin gEq (dBin gIx (dVar 4) (dC (.int 0))) (dC (.int 0)))) (dOrT (dTst (dBin gNe (dVar 8) (dC (.str "InvalidRatio")))) (dTst (dBin (orD (dOwnEq true [(c.kRatio, (padF 2 [] (F_RatioD_eqD c)), [(.prim "tuple")])]) (gNeX [(c.kRatio, (padF 2 [] (F_RatioD_eqD c)), [(.own c.cRatio), (.prim "tuple")])] 5)) (dVar 9) (dTup (dCons (dVar 6) dNil)))))) (dRet (dC (.bl false))) dSkip) (dSeq (dIfS (dNotT (dTst (dFun (padF 2 [] (F_w_like c 8)) (dCons (dLst (dCons (dFun (padF 1 [] (F_w_parts c)) (dCons (dVar 5) dNil)) (dCons (dFun (padF 1 [] (F_w_parts c)) (dCons (dVar 6) dNil)) dNil))) (dCons (dLst (dCons (dVar 3) (dCons (dVar 4) dNil))) dNil))))) (dRet (dC (.bl false))) dSkip) (dSeq (dSet 10 (dFun (padF 1 [] (F_w_made c)) (dCons (dFun (padF 1 [] (F_w_any_frac c)) (dCons (dVar 1) dNil)) dNil))) (dSeq (dIfS (dTst (dBin (dOwnEq true [(c.kRatio, (padF 2 [] (F_RatioD_eqD c)), [(.own c.cRatio)])]) (dBin (dOwn2 c.cRatio (padF 2 [] (F_RatioD_mulD c))) (dVar 5) (dBin (dOwn2 c.cRatio (padF 2 [] (F_RatioD_addD c))) (dVar 6) (dVar 10))) (dBin (dOwn2 c.cRatio (padF 2 [] (F_RatioD_addD c))) (dBin (dOwn2 c.cRatio (padF 2 [] (F_RatioD_mulD c))) (dVar 5) (dVar 6)) (dBin (dOwn2 c.cRatio (padF 2 [] (F_RatioD_mulD c))) (dVar 5) (dVar 10))))) (dRet (dC (.bl false))) dSkip) (dIfS (dTst (dBin (dOwnEq true [(c.kRatio, (padF 2 [] (F_RatioD_eqD c)), [(.own c.cRatio)])]) (dBin (dOwn2 c.cRatio (padF 2 [] (F_RatioD_subD c))) (dVar 5) (dVar 5)) (dMake c.cRatio (padF 3 [.int 1] (F_RatioD_initD c)) (dCons (dC (.int 0)) dNil)))) (dRet (dC (.bl false))) dSkip))))))))))))) e m := rfl

noncomputable def D_law (c : Cs) (g : List (Str × Addr)) : DS := (dSeq (dSet 1 (dFun (padF 1 [] (F_w_begin c)) (dCons (dVar 0) dNil))) (dSeq (dFor (dItR1 (dCons (dC (.int 8)) dNil)) (dName 2) (B_law_1 c g)) (dRet (dBin gEq (dFun (padF 1 [] (F_w_parts c)) (dCons (dMethK [(c.kRatio, GK_Ratio_over_0_other c)] 0 1 (dMake c.cRatio (padF 3 [] (F_RatioD_initD c)) (dCons (dC (.int 1)) (dCons (dC (.int 2)) dNil))) dNil (dCons (dMake c.cRatio (padF 3 [] (F_RatioD_initD c)) (dCons (dNegI (dC (.int 1))) (dCons (dC (.int 3)) dNil))) dNil)) dNil)) (dTup (dCons (dNegI (dC (.int 3))) (dCons (dC (.int 2)) dNil)))))))

/-- law (0 _law_script, 1 _law_bag, 2 _law_turn, 3 _law_p, 4 _law_q, 5 _law_one_here, 6 _law_other_z, 7 _law_found, 8 _law_code, 9 _law_told, 10 _law_third) -/
noncomputable def F_law (c : Cs) : DFn := fun ds m => allG fun g => dFn 11 (D_law c g) ds m

end W

set_option maxHeartbeats 0
namespace W
open PySem PySem.Spec L2 DL

abbrev s_w_begin : Stmt := (topS 15)

theorem sc_w_begin : FnScope ["_law_script"] ["_law_script"] (defScope s_w_begin) := ⟨rfl, rfl, rfl, by decide +kernel, rfl, by decide +kernel, by decide +kernel⟩

abbrev s_w_take : Stmt := (topS 16)

theorem sc_w_take : FnScope ["_law_bag", "_law_many", "_law_cell", "_law_digit", "_law_old"] ["_law_bag", "_law_many"] (defScope s_w_take) := ⟨rfl, rfl, rfl, by decide +kernel, rfl, by decide +kernel, by decide +kernel⟩

abbrev s_w_one : Stmt := (topS 17)

theorem sc_w_one : FnScope ["_law_bag", "_law_row"] ["_law_bag", "_law_row"] (defScope s_w_one) := ⟨rfl, rfl, rfl, by decide +kernel, rfl, by decide +kernel, by decide +kernel⟩

abbrev s_w_divisor : Stmt := (topS 21)

theorem sc_w_divisor : FnScope ["_law_a", "_law_b"] ["_law_a", "_law_b"] (defScope s_w_divisor) := ⟨rfl, rfl, rfl, by decide +kernel, rfl, by decide +kernel, by decide +kernel⟩

abbrev s_w_frac : Stmt := (topS 22)

theorem sc_w_frac : FnScope ["_law_a", "_law_b", "_law_by"] ["_law_a", "_law_b"] (defScope s_w_frac) := ⟨rfl, rfl, rfl, by decide +kernel, rfl, by decide +kernel, by decide +kernel⟩

abbrev s_w_any_frac : Stmt := (topS 30)

theorem sc_w_any_frac : FnScope ["_law_bag", "_law_b", "_law_a"] ["_law_bag"] (defScope s_w_any_frac) := ⟨rfl, rfl, rfl, by decide +kernel, rfl, by decide +kernel, by decide +kernel⟩

abbrev s_is_whole : Stmt := (topS 7)

theorem sc_is_whole : FnScope ["value"] ["value"] (defScope s_is_whole) := ⟨rfl, rfl, rfl, by decide +kernel, rfl, by decide +kernel, by decide +kernel⟩

abbrev s_CycleErrorD_initD : Stmt := (inClass (topS 2) 0)

theorem sc_CycleErrorD_initD : FnScopeS ["self", "code"] ["self", "code"] (defScope s_CycleErrorD_initD) := ⟨rfl, rfl, rfl, by decide +kernel, rfl, by decide +kernel, by decide +kernel, by decide +kernel⟩

abbrev s_InvalidRatioD_initD : Stmt := (inClass (topS 4) 0)

theorem sc_InvalidRatioD_initD : FnScopeS ["self", "given"] ["self", "given"] (defScope s_InvalidRatioD_initD) := ⟨rfl, rfl, rfl, by decide +kernel, rfl, by decide +kernel, by decide +kernel, by decide +kernel⟩

abbrev s_common_divisor : Stmt := (topS 11)

theorem sc_common_divisor : FnScope ["one", "other"] ["one", "other"] (defScope s_common_divisor) := ⟨rfl, rfl, rfl, by decide +kernel, rfl, by decide +kernel, by decide +kernel⟩

abbrev s_RatioD_initD : Stmt := (inClass (topS 13) 0)

theorem sc_RatioD_initD : FnScope ["self", "top", "bottom", "divisor"] ["self", "top", "bottom"] (defScope s_RatioD_initD) := ⟨rfl, rfl, rfl, by decide +kernel, rfl, by decide +kernel, by decide +kernel⟩

abbrev s_w_made : Stmt := (topS 29)

theorem sc_w_made : FnScope ["_law_p"] ["_law_p"] (defScope s_w_made) := ⟨rfl, rfl, rfl, by decide +kernel, rfl, by decide +kernel, by decide +kernel⟩

abbrev s_Ratio_bottom : Stmt := (inClass (topS 13) 3)

theorem sc_Ratio_bottom : FnScope ["self"] ["self"] (defScope s_Ratio_bottom) := ⟨rfl, rfl, rfl, by decide +kernel, rfl, by decide +kernel, by decide +kernel⟩

abbrev s_Ratio_top : Stmt := (inClass (topS 13) 2)

theorem sc_Ratio_top : FnScope ["self"] ["self"] (defScope s_Ratio_top) := ⟨rfl, rfl, rfl, by decide +kernel, rfl, by decide +kernel, by decide +kernel⟩

abbrev s_RatioD_mulD : Stmt := (inClass (topS 13) 6)

theorem sc_RatioD_mulD : FnScope ["self", "other"] ["self", "other"] (defScope s_RatioD_mulD) := ⟨rfl, rfl, rfl, by decide +kernel, rfl, by decide +kernel, by decide +kernel⟩

abbrev s_w_parts : Stmt := (topS 23)

theorem sc_w_parts : FnScope ["_law_found"] ["_law_found"] (defScope s_w_parts) := ⟨rfl, rfl, rfl, by decide +kernel, rfl, by decide +kernel, by decide +kernel⟩

abbrev s_RatioD_subD : Stmt := (inClass (topS 13) 5)

theorem sc_RatioD_subD : FnScope ["self", "other"] ["self", "other"] (defScope s_RatioD_subD) := ⟨rfl, rfl, rfl, by decide +kernel, rfl, by decide +kernel, by decide +kernel⟩

abbrev s_RatioD_addD : Stmt := (inClass (topS 13) 4)

theorem sc_RatioD_addD : FnScope ["self", "other"] ["self", "other"] (defScope s_RatioD_addD) := ⟨rfl, rfl, rfl, by decide +kernel, rfl, by decide +kernel, by decide +kernel⟩

abbrev s_w_times : Stmt := (topS 26)

theorem sc_w_times : FnScope ["_law_p", "_law_q"] ["_law_p", "_law_q"] (defScope s_w_times) := ⟨rfl, rfl, rfl, by decide +kernel, rfl, by decide +kernel, by decide +kernel⟩

abbrev s_w_minus : Stmt := (topS 25)

theorem sc_w_minus : FnScope ["_law_p", "_law_q"] ["_law_p", "_law_q"] (defScope s_w_minus) := ⟨rfl, rfl, rfl, by decide +kernel, rfl, by decide +kernel, by decide +kernel⟩

abbrev s_w_plus : Stmt := (topS 24)

theorem sc_w_plus : FnScope ["_law_p", "_law_q"] ["_law_p", "_law_q"] (defScope s_w_plus) := ⟨rfl, rfl, rfl, by decide +kernel, rfl, by decide +kernel, by decide +kernel⟩

abbrev s_w_like : Stmt := (topS 18)

theorem sc_w_like : FnScope ["_law_found", "_law_due", "_law_one_here", "_law_two"] ["_law_found", "_law_due"] (defScope s_w_like) := ⟨rfl, rfl, rfl, by decide +kernel, rfl, by decide +kernel, by decide +kernel⟩

abbrev s_w_less : Stmt := (topS 28)

theorem sc_w_less : FnScope ["_law_p", "_law_q"] ["_law_p", "_law_q"] (defScope s_w_less) := ⟨rfl, rfl, rfl, by decide +kernel, rfl, by decide +kernel, by decide +kernel⟩

abbrev s_Ratio_is_below : Stmt := (inClass (topS 13) 11)

theorem sc_Ratio_is_below : FnScope ["self", "other"] ["self", "other"] (defScope s_Ratio_is_below) := ⟨rfl, rfl, rfl, by decide +kernel, rfl, by decide +kernel, by decide +kernel⟩

abbrev s_RatioD_boolD : Stmt := (inClass (topS 13) 13)

theorem sc_RatioD_boolD : FnScope ["self"] ["self"] (defScope s_RatioD_boolD) := ⟨rfl, rfl, rfl, by decide +kernel, rfl, by decide +kernel, by decide +kernel⟩

abbrev s_Ratio_over : Stmt := (inClass (topS 13) 8)

theorem sc_Ratio_over : FnScope ["self", "other"] ["self", "other"] (defScope s_Ratio_over) := ⟨rfl, rfl, rfl, by decide +kernel, rfl, by decide +kernel, by decide +kernel⟩

abbrev s_w_field : Stmt := (topS 19)

theorem sc_w_field : FnScope ["_law_e"] ["_law_e"] (defScope s_w_field) := ⟨rfl, rfl, rfl, by decide +kernel, rfl, by decide +kernel, by decide +kernel⟩

abbrev s_w_try : Stmt := (topS 20)

theorem sc_w_try : FnScope ["_law_ask", "_law_e"] ["_law_ask"] (defScope s_w_try) := ⟨rfl, rfl, rfl, by decide +kernel, rfl, by decide +kernel, by decide +kernel⟩

abbrev s_w_over : Stmt := (topS 27)

theorem sc_w_over : FnScope ["_law_p", "_law_q"] ["_law_p", "_law_q"] (defScope s_w_over) := ⟨rfl, rfl, rfl, by decide +kernel, rfl, by decide +kernel, by decide +kernel⟩

abbrev s_RatioD_eqD : Stmt := (inClass (topS 13) 12)

theorem sc_RatioD_eqD : FnScope ["self", "other"] ["self", "other"] (defScope s_RatioD_eqD) := ⟨rfl, rfl, rfl, by decide +kernel, rfl, by decide +kernel, by decide +kernel⟩

abbrev s_law : Stmt := (topS 31)

theorem sc_law : FnScope ["_law_script", "_law_bag", "_law_turn", "_law_p", "_law_q", "_law_one_here", "_law_other_z", "_law_found", "_law_code", "_law_told", "_law_third"] ["_law_script"] (defScope s_law) := ⟨rfl, rfl, rfl, by decide +kernel, rfl, by decide +kernel, by decide +kernel⟩

theorem lf_0 : lamFree (defScope s_law) (lamTab 0).scope ["_law_other_z", "_law_one_here"] = true := by decide +kernel

theorem lb_0 : LBind (LamTab.tab 0) := lbind0 rfl rfl (fun _ _ _ _ _ _ _ => rfl) (fun _ _ _ _ _ _ _ _ => ⟨_, rfl, rfl⟩)

theorem lrb_0 : lamRowB ["_law_script", "_law_bag", "_law_turn", "_law_p", "_law_q", "_law_one_here", "_law_other_z", "_law_found", "_law_code", "_law_told", "_law_third"] (defScope s_law) (lamTab 0) [6, 5] = true := by decide +kernel

theorem lro_law : ∀ r ∈ lr_law, lamRowB ["_law_script", "_law_bag", "_law_turn", "_law_p", "_law_q", "_law_one_here", "_law_other_z", "_law_found", "_law_code", "_law_told", "_law_third"] (defScope s_law) (LamTab.tab r.1) r.2 = true := by
  intro r hr; unfold lr_law at hr; simp only [List.mem_cons, List.not_mem_nil, or_false] at hr
  subst hr; exact lrb_0

/-- what the top has written -/
structure Txt (P : Program) (K : PySem.W.Frag) (mg : Str → Option Value) (base : Heap) (c : Cs) : Prop where
  sup : (P.main.scope.names.lookup ("super" : Str)).isSome = false ∧ mg "super" = none ∧ PySem.W.nsIn K cStatics "thirdparty.any" = some none
  fn_w_begin : ∃ (f : Addr) (fd : FuncData), mg "_law_begin" = some (.ref f) ∧ FunD K "_law_begin" "_law_begin" (defArgs s_w_begin) (defBody s_w_begin) (defScope s_w_begin) [] [] f fd
  fn_w_take : ∃ (f : Addr) (fd : FuncData), mg "_law_take" = some (.ref f) ∧ FunD K "_law_take" "_law_take" (defArgs s_w_take) (defBody s_w_take) (defScope s_w_take) [] [] f fd
  fn_w_one : ∃ (f : Addr) (fd : FuncData), mg "_law_one" = some (.ref f) ∧ FunD K "_law_one" "_law_one" (defArgs s_w_one) (defBody s_w_one) (defScope s_w_one) [] [] f fd
  fn_w_divisor : ∃ (f : Addr) (fd : FuncData), mg "_law_divisor" = some (.ref f) ∧ FunD K "_law_divisor" "_law_divisor" (defArgs s_w_divisor) (defBody s_w_divisor) (defScope s_w_divisor) [] [] f fd
  fn_w_frac : ∃ (f : Addr) (fd : FuncData), mg "_law_frac" = some (.ref f) ∧ FunD K "_law_frac" "_law_frac" (defArgs s_w_frac) (defBody s_w_frac) (defScope s_w_frac) [] [] f fd
  fn_w_any_frac : ∃ (f : Addr) (fd : FuncData), mg "_law_any_frac" = some (.ref f) ∧ FunD K "_law_any_frac" "_law_any_frac" (defArgs s_w_any_frac) (defBody s_w_any_frac) (defScope s_w_any_frac) [] [] f fd
  fn_is_whole : ∃ (f : Addr) (fd : FuncData), mg "is_whole" = some (.ref f) ∧ FunD K "is_whole" "is_whole" (defArgs s_is_whole) (defBody s_is_whole) (defScope s_is_whole) [] [] f fd
  me_CycleErrorD_initD : ∃ (f : Addr) (fd : FuncData) (cc : Addr), PySem.W.findIn K (.ref c.cCycleError) "__init__" = some (some (.ref f)) ∧ PySem.W.isFn K (.ref f) = true ∧ PySem.W.typeIn K (.ref f) = some (.type "function") ∧ PySem.W.fnIn K f = true ∧ (PySem.W.ks_superIn K c.cInvalidRatio c.cInvalidRatio "__init__" = some (some (.ref f)) ∧ PySem.W.mroIn K c.cInvalidRatio (.ref c.cInvalidRatio) = some true) ∧ FunS P K "__init__" "CycleError.__init__" (defArgs s_CycleErrorD_initD) (defBody s_CycleErrorD_initD) (defScope s_CycleErrorD_initD) [] f fd c.cCycleError cc
  me_InvalidRatioD_initD : ∃ (f : Addr) (fd : FuncData) (cc : Addr), PySem.W.findIn K (.ref c.cInvalidRatio) "__init__" = some (some (.ref f)) ∧ PySem.W.isFn K (.ref f) = true ∧ PySem.W.typeIn K (.ref f) = some (.type "function") ∧ PySem.W.fnIn K f = true ∧ FunS P K "__init__" "InvalidRatio.__init__" (defArgs s_InvalidRatioD_initD) (defBody s_InvalidRatioD_initD) (defScope s_InvalidRatioD_initD) [] f fd c.cInvalidRatio cc
  fn_common_divisor : ∃ (f : Addr) (fd : FuncData), mg "common_divisor" = some (.ref f) ∧ FunD K "common_divisor" "common_divisor" (defArgs s_common_divisor) (defBody s_common_divisor) (defScope s_common_divisor) [] [] f fd
  me_RatioD_initD : ∃ (f : Addr) (fd : FuncData), PySem.W.findIn K (.ref c.cRatio) "__init__" = some (some (.ref f)) ∧ PySem.W.isFn K (.ref f) = true ∧ FunD K "__init__" "Ratio.__init__" (defArgs s_RatioD_initD) (defBody s_RatioD_initD) (defScope s_RatioD_initD) [.int 1] [] f fd
  fn_w_made : ∃ (f : Addr) (fd : FuncData), mg "_law_made" = some (.ref f) ∧ FunD K "_law_made" "_law_made" (defArgs s_w_made) (defBody s_w_made) (defScope s_w_made) [] [] f fd
  pr_Ratio_bottom : ∃ (pp g : Addr) (fd : FuncData), PropOf K c.cRatio "bottom" pp g ∧ FunD K "bottom" "Ratio.bottom" (defArgs s_Ratio_bottom) (defBody s_Ratio_bottom) (defScope s_Ratio_bottom) [] [] g fd
  pr_Ratio_top : ∃ (pp g : Addr) (fd : FuncData), PropOf K c.cRatio "top" pp g ∧ FunD K "top" "Ratio.top" (defArgs s_Ratio_top) (defBody s_Ratio_top) (defScope s_Ratio_top) [] [] g fd
  me_RatioD_mulD : ∃ (f : Addr) (fd : FuncData), PySem.W.findIn K (.ref c.cRatio) "__mul__" = some (some (.ref f)) ∧ PySem.W.isFn K (.ref f) = true ∧ FunD K "__mul__" "Ratio.__mul__" (defArgs s_RatioD_mulD) (defBody s_RatioD_mulD) (defScope s_RatioD_mulD) [] [] f fd
  fn_w_parts : ∃ (f : Addr) (fd : FuncData), mg "_law_parts" = some (.ref f) ∧ FunD K "_law_parts" "_law_parts" (defArgs s_w_parts) (defBody s_w_parts) (defScope s_w_parts) [] [] f fd
  me_RatioD_subD : ∃ (f : Addr) (fd : FuncData), PySem.W.findIn K (.ref c.cRatio) "__sub__" = some (some (.ref f)) ∧ PySem.W.isFn K (.ref f) = true ∧ FunD K "__sub__" "Ratio.__sub__" (defArgs s_RatioD_subD) (defBody s_RatioD_subD) (defScope s_RatioD_subD) [] [] f fd
  me_RatioD_addD : ∃ (f : Addr) (fd : FuncData), PySem.W.findIn K (.ref c.cRatio) "__add__" = some (some (.ref f)) ∧ PySem.W.isFn K (.ref f) = true ∧ FunD K "__add__" "Ratio.__add__" (defArgs s_RatioD_addD) (defBody s_RatioD_addD) (defScope s_RatioD_addD) [] [] f fd
  fn_w_times : ∃ (f : Addr) (fd : FuncData), mg "_law_times" = some (.ref f) ∧ FunD K "_law_times" "_law_times" (defArgs s_w_times) (defBody s_w_times) (defScope s_w_times) [] [] f fd
  fn_w_minus : ∃ (f : Addr) (fd : FuncData), mg "_law_minus" = some (.ref f) ∧ FunD K "_law_minus" "_law_minus" (defArgs s_w_minus) (defBody s_w_minus) (defScope s_w_minus) [] [] f fd
  fn_w_plus : ∃ (f : Addr) (fd : FuncData), mg "_law_plus" = some (.ref f) ∧ FunD K "_law_plus" "_law_plus" (defArgs s_w_plus) (defBody s_w_plus) (defScope s_w_plus) [] [] f fd
  fn_w_like : ∃ (f : Addr) (fd : FuncData), mg "_law_like" = some (.ref f) ∧ FunD K "_law_like" "_law_like" (defArgs s_w_like) (defBody s_w_like) (defScope s_w_like) [] [] f fd
  fn_w_less : ∃ (f : Addr) (fd : FuncData), mg "_law_less" = some (.ref f) ∧ FunD K "_law_less" "_law_less" (defArgs s_w_less) (defBody s_w_less) (defScope s_w_less) [] [] f fd
  me_Ratio_is_below : ∃ (f : Addr) (fd : FuncData), PySem.W.findIn K (.ref c.cRatio) "is_below" = some (some (.ref f)) ∧ PySem.W.isFn K (.ref f) = true ∧ FunD K "is_below" "Ratio.is_below" (defArgs s_Ratio_is_below) (defBody s_Ratio_is_below) (defScope s_Ratio_is_below) [] [] f fd
  me_RatioD_boolD : ∃ (f : Addr) (fd : FuncData), PySem.W.findIn K (.ref c.cRatio) "__bool__" = some (some (.ref f)) ∧ PySem.W.isFn K (.ref f) = true ∧ FunD K "__bool__" "Ratio.__bool__" (defArgs s_RatioD_boolD) (defBody s_RatioD_boolD) (defScope s_RatioD_boolD) [] [] f fd
  me_Ratio_over : ∃ (f : Addr) (fd : FuncData), PySem.W.findIn K (.ref c.cRatio) "over" = some (some (.ref f)) ∧ PySem.W.isFn K (.ref f) = true ∧ FunD K "over" "Ratio.over" (defArgs s_Ratio_over) (defBody s_Ratio_over) (defScope s_Ratio_over) [] [] f fd
  fn_w_field : ∃ (f : Addr) (fd : FuncData), mg "_law_field" = some (.ref f) ∧ FunD K "_law_field" "_law_field" (defArgs s_w_field) (defBody s_w_field) (defScope s_w_field) [] [] f fd
  fn_w_try : ∃ (f : Addr) (fd : FuncData), mg "_law_try" = some (.ref f) ∧ FunD K "_law_try" "_law_try" (defArgs s_w_try) (defBody s_w_try) (defScope s_w_try) [] [] f fd
  fn_w_over : ∃ (f : Addr) (fd : FuncData), mg "_law_over" = some (.ref f) ∧ FunD K "_law_over" "_law_over" (defArgs s_w_over) (defBody s_w_over) (defScope s_w_over) [] [] f fd
  me_RatioD_eqD : ∃ (f : Addr) (fd : FuncData), PySem.W.findIn K (.ref c.cRatio) "__eq__" = some (some (.ref f)) ∧ PySem.W.isFn K (.ref f) = true ∧ FunD K "__eq__" "Ratio.__eq__" (defArgs s_RatioD_eqD) (defBody s_RatioD_eqD) (defScope s_RatioD_eqD) [] [] f fd
  fn_law : ∃ (f : Addr) (fd : FuncData), mg "law" = some (.ref f) ∧ MkOk K mg base (("law" : Str) ++ (".<locals>." : Str) ++ ("<lambda>" : Str)) f ∧ FunD K "law" "law" (defArgs s_law) (defBody s_law) (defScope s_law) [] [] f fd
  b_abs : mg "abs" = none
  b_all : mg "all" = none
  b_bool : mg "bool" = none
  b_int : mg "int" = none
  b_isinstance : mg "isinstance" = none
  b_len : mg "len" = none
  b_list : mg "list" = none
  b_range : mg "range" = none
  b_str : mg "str" = none
  b_tuple : mg "tuple" = none
  b_zip : mg "zip" = none
  gc_CycleError : mg "CycleError" = some (.ref c.cCycleError)
  gc_InvalidRatio : mg "InvalidRatio" = some (.ref c.cInvalidRatio)
  gc_Missing : mg "Missing" = some (.ref c.cMissing)
  gc_NothingLeft : mg "NothingLeft" = some (.ref c.cNothingLeft)
  cl_Ratio : Cls K c.cRatio
  gc_Ratio : mg "Ratio" = some (.ref c.cRatio)
  ox_InvalidRatio : OexG K c.cInvalidRatio
  xf_InvalidRatio : XfC K c.cInvalidRatio
  nx_InvalidRatio_code : PySem.W.findIn K (.ref c.cInvalidRatio) "code" = some none
  nx_InvalidRatio_given : PySem.W.findIn K (.ref c.cInvalidRatio) "given" = some none
  sb_InvalidRatio_CycleError : SupBi K c.cCycleError c.cInvalidRatio
  xm_CycleError_Missing_NothingLeft_InvalidRatio : PySem.W.exmAny K (.ref c.cInvalidRatio) [.ref c.cCycleError, .ref c.cMissing, .ref c.cNothingLeft] = some true
  mk_Ratio : PySem.W.makesIn K c.cRatio = true ∧ PySem.W.keepIn K (.ref c.cRatio) = true
  sf_Ratio : PySem.W.selfFirst K c.cRatio = true
  fl_Ratio_own_bottom : FldOk K "own_bottom" c.kRatio 1
  fl_Ratio_own_top : FldOk K "own_top" c.kRatio 0
  in_Ratio : InsK K c.cRatio
  nf_Ratio_ownccRatio : PySem.W.notFirst K c.cRatio (Tg.val (.own c.cRatio)) = true
  nf_Ratio_primtuple : PySem.W.notFirst K c.cRatio (Tg.val (.prim "tuple")) = true
  ne_Ratio : NeOk K c.cRatio
  ans_Ratio__Ratio : AnsOk K (ans_Ratio__Ratio c) [.ref c.cRatio]
  ans_bool : AnsOk K (ans_bool c) [.type "bool"]
  ans_int : AnsOk K (ans_int c) [.type "int"]
  ans_list : AnsOk K (ans_list c) [.type "list"]
  ans_list_tuple : AnsOk K (ans_list_tuple c) [.type "list", .type "tuple"]
  ans_str : AnsOk K (ans_str c) [.type "str"]
  ans_tuple : AnsOk K (ans_tuple c) [.type "tuple"]

section
variable {P : Program} {w : World} {K : PySem.W.Frag} {mg : Str → Option Value} {base : Heap} {c : Cs}

theorem ok_w_begin (T : Txt P K mg base c) {f : Addr} {fd : FuncData} (FD : FunD K "_law_begin" "_law_begin" (defArgs s_w_begin) (defBody s_w_begin) (defScope s_w_begin) [] [] f fd) : FnD P w K mg base 1 f fd ["_law_script"] (F_w_begin c) := fnD_of (N := ["_law_script"]) FD sc_w_begin (fun cdv A outer s H E hr => by
    refine pds_one ?_
    refine pds_ret ?_
    refine pd_loc ?_
    refine pda_c ?_ ?_
    refine pd_bt oc_list T.b_list (by decide +kernel) ?_
    refine pda_c ?_ pda_nil
    refine pd_sl ?_ pdo_none ?_
    exact (pd_var 0)
    exact (pdo_some pd_int)
    refine pda_int ?_
    refine pda_int ?_
    refine pda_c ?_ pda_nil
    refine pd_op od_add pd_int ?_
    refine pd_op od_mul pd_int ?_
    refine pd_bc oc_len T.b_len (by decide +kernel) ?_
    refine pda_c ?_ pda_nil
    refine pd_sl ?_ pdo_none ?_
    exact (pd_var 0)
    exact (pdo_some pd_int))

theorem ft_w_begin_1 (T : Txt P K mg base c) : FT P w K mg base 1 "_law_begin" (padF 1 [] (F_w_begin c)) := by
  obtain ⟨f, fd, hm, FD⟩ := T.fn_w_begin
  exact ⟨f, fd, _, _, _, hm, FD.kp, ok_w_begin T FD, (Bd.nil (FD.bindsN (fun _ _ _ _ _ _ us hl => match us, hl with | [_], _ => rfl))), rfl⟩

theorem ok_w_take (T : Txt P K mg base c) {f : Addr} {fd : FuncData} (FD : FunD K "_law_take" "_law_take" (defArgs s_w_take) (defBody s_w_take) (defScope s_w_take) [] [] f fd) : FnD P w K mg base 2 f fd ["_law_bag", "_law_many"] (F_w_take c) := fnD_of (N := ["_law_bag", "_law_many", "_law_cell", "_law_digit", "_law_old"]) FD sc_w_take (fun cdv A outer s H E hr => by
    refine pds_cons ?_ ?_
    refine pds_if ?_ ?_ pds_nil
    refine PDW.pt ?_
    refine pdw_and ?_ ?_
    refine pdt_cmp (od_eq hr.units) ?_ pd_int
    refine pd_ix ?_ pd_int
    exact (pd_var 0)
    refine pdw_and1 ?_
    refine pdt_cmp od_lt ?_ ?_
    refine pd_ix ?_ pd_int
    exact (pd_var 0)
    refine pd_bc oc_len T.b_len (by decide +kernel) ?_
    refine pda_c ?_ pda_nil
    refine pd_ix ?_ pd_int
    exact (pd_var 0)
    refine pds_cons ?_ ?_
    refine pds_set (i := 2) ?_ sc_w_take.nd
    refine pd_bc oc_abs T.b_abs (by decide +kernel) ?_
    refine pda_c ?_ pda_nil
    refine pd_ix ?_ ?_
    refine pd_ix ?_ pd_int
    exact (pd_var 0)
    refine pd_ix ?_ pd_int
    exact (pd_var 0)
    refine pds_cons ?_ ?_
    refine pds_putI ?_ ?_ pd_int
    refine pd_op od_add ?_ pd_int
    refine pd_ix ?_ pd_int
    exact (pd_var 0)
    exact (pd_var 0)
    refine pds_one ?_
    refine pds_if ?_ ?_ ?_
    refine pdt_cmp od_ge ?_ ?_
    exact (pd_var 2)
    exact (pd_op od_pow pd_int pd_int)
    refine pds_one ?_
    refine pds_putI ?_ ?_ pd_int
    exact (pd_var 2)
    exact (pd_var 0)
    refine pds_one ?_
    refine pds_putI ?_ ?_ pd_int
    refine pd_op od_mod ?_ pd_int
    refine pd_bt oc_int T.b_int (by decide +kernel) ?_
    refine pda_c ?_ pda_nil
    refine pd_op od_add ?_ ?_
    refine pd_op od_add ?_ ?_
    refine pd_op od_mul ?_ pd_int
    refine pd_ix ?_ pd_int
    exact (pd_var 0)
    refine pd_op od_mul ?_ pd_int
    refine pd_op od_mod ?_ pd_int
    refine pd_bt oc_int T.b_int (by decide +kernel) ?_
    refine pda_c ?_ pda_nil
    exact (pd_var 2)
    refine pd_ix ?_ pd_int
    exact (pd_var 0)
    exact (pd_var 0)
    refine pds_cons ?_ ?_
    refine pds_if ?_ ?_ pds_nil
    refine pdt_cmp od_gt ?_ pd_int
    refine pd_ix ?_ pd_int
    exact (pd_var 0)
    refine pds_cons ?_ ?_
    refine pds_set (i := 3) ?_ sc_w_take.nd
    refine pd_op od_mod ?_ ?_
    refine pd_bt oc_int T.b_int (by decide +kernel) ?_
    refine pda_c ?_ pda_nil
    refine pd_ix ?_ pd_int
    exact (pd_var 0)
    exact (pd_var 1)
    refine pds_cons ?_ ?_
    refine pds_putI ?_ ?_ pd_int
    refine pd_op od_div ?_ ?_
    refine pd_ix ?_ pd_int
    exact (pd_var 0)
    exact (pd_var 1)
    exact (pd_var 0)
    refine pds_one ?_
    refine pds_ret ?_
    exact (pd_var 3)
    refine pds_cons ?_ ?_
    refine pds_set (i := 4) ?_ sc_w_take.nd
    refine pd_ix ?_ pd_int
    exact (pd_var 0)
    refine pds_cons ?_ ?_
    refine pds_putI ?_ ?_ pd_int
    refine pd_op od_mod ?_ pd_int
    refine pd_bt oc_int T.b_int (by decide +kernel) ?_
    refine pda_c ?_ pda_nil
    refine pd_op od_add ?_ pd_int
    refine pd_op od_add ?_ ?_
    refine pd_op od_mul ?_ ?_
    exact (pd_var 4)
    exact (pd_var 4)
    refine pd_op od_mul ?_ pd_int
    exact (pd_var 4)
    exact (pd_var 0)
    refine pds_one ?_
    refine pds_ret ?_
    refine pd_op od_mod ?_ ?_
    refine pd_bt oc_int T.b_int (by decide +kernel) ?_
    refine pda_c ?_ pda_nil
    refine pd_op od_add ?_ ?_
    refine pd_op od_div ?_ pd_int
    refine pd_ix ?_ pd_int
    exact (pd_var 0)
    refine pd_op od_mul ?_ pd_int
    refine pd_op od_mod ?_ pd_int
    refine pd_bt oc_int T.b_int (by decide +kernel) ?_
    refine pda_c ?_ pda_nil
    refine pd_ix ?_ pd_int
    exact (pd_var 0)
    exact (pd_var 1))

theorem ft_w_take_2 (T : Txt P K mg base c) : FT P w K mg base 2 "_law_take" (padF 2 [] (F_w_take c)) := by
  obtain ⟨f, fd, hm, FD⟩ := T.fn_w_take
  exact ⟨f, fd, _, _, _, hm, FD.kp, ok_w_take T FD, (Bd.nil (FD.bindsN (fun _ _ _ _ _ _ us hl => match us, hl with | [_, _], _ => rfl))), rfl⟩

theorem ok_w_one (T : Txt P K mg base c) {f : Addr} {fd : FuncData} (FD : FunD K "_law_one" "_law_one" (defArgs s_w_one) (defBody s_w_one) (defScope s_w_one) [] [] f fd) : FnD P w K mg base 3 f fd ["_law_bag", "_law_row"] (F_w_one c) := fnD_of (N := ["_law_bag", "_law_row"]) FD sc_w_one (fun cdv A outer s H E hr => by
    refine pds_one ?_
    refine pds_ret ?_
    refine pd_ix ?_ ?_
    exact (pd_var 1)
    refine pd_fun (ft_w_take_2 T) (hr.mono (by decide)) ?_
    refine pda_c ?_ ?_
    exact (pd_var 0)
    refine pda_c ?_ pda_nil
    refine pd_bc oc_len T.b_len (by decide +kernel) ?_
    refine pda_c ?_ pda_nil
    exact (pd_var 1))

theorem ft_w_one_2 (T : Txt P K mg base c) : FT P w K mg base 3 "_law_one" (padF 2 [] (F_w_one c)) := by
  obtain ⟨f, fd, hm, FD⟩ := T.fn_w_one
  exact ⟨f, fd, _, _, _, hm, FD.kp, ok_w_one T FD, (Bd.nil (FD.bindsN (fun _ _ _ _ _ _ us hl => match us, hl with | [_, _], _ => rfl))), rfl⟩

theorem ok_w_divisor (T : Txt P K mg base c) {f : Addr} {fd : FuncData} (FD : FunD K "_law_divisor" "_law_divisor" (defArgs s_w_divisor) (defBody s_w_divisor) (defScope s_w_divisor) [] [] f fd) : FnD P w K mg base 1 f fd ["_law_a", "_law_b"] (F_w_divisor c) := fnD_of (N := ["_law_a", "_law_b"]) FD sc_w_divisor (fun cdv A outer s H E hr => by
    refine pds_cons ?_ ?_
    refine pds_while ?_ ?_ (passes_of rfl)
    refine pdt_cmp od_gt ?_ pd_int
    exact (pd_var 1)
    refine pds_one ?_
    refine pds_par (i := 0) (j := 1) ?_ (by rfl) sc_w_divisor.nd
    refine pda_c ?_ ?_
    exact (pd_var 1)
    refine pda_c ?_ pda_nil
    refine pd_op od_mod ?_ ?_
    refine pd_bt oc_int T.b_int (by decide +kernel) ?_
    refine pda_c ?_ pda_nil
    exact (pd_var 0)
    exact (pd_var 1)
    refine pds_one ?_
    refine pds_ret ?_
    exact (pd_var 0))

theorem ft_w_divisor_2 (T : Txt P K mg base c) : FT P w K mg base 1 "_law_divisor" (padF 2 [] (F_w_divisor c)) := by
  obtain ⟨f, fd, hm, FD⟩ := T.fn_w_divisor
  exact ⟨f, fd, _, _, _, hm, FD.kp, ok_w_divisor T FD, (Bd.nil (FD.bindsN (fun _ _ _ _ _ _ us hl => match us, hl with | [_, _], _ => rfl))), rfl⟩

theorem ok_w_frac (T : Txt P K mg base c) {f : Addr} {fd : FuncData} (FD : FunD K "_law_frac" "_law_frac" (defArgs s_w_frac) (defBody s_w_frac) (defScope s_w_frac) [] [] f fd) : FnD P w K mg base 2 f fd ["_law_a", "_law_b"] (F_w_frac c) := fnD_of (N := ["_law_a", "_law_b", "_law_by"]) FD sc_w_frac (fun cdv A outer s H E hr => by
    refine pds_cons ?_ ?_
    refine pds_set (i := 2) ?_ sc_w_frac.nd
    refine pd_fun (ft_w_divisor_2 T) (hr.mono (by decide)) ?_
    refine pda_c ?_ ?_
    refine pd_bc oc_abs T.b_abs (by decide +kernel) ?_
    refine pda_c ?_ pda_nil
    exact (pd_var 0)
    refine pda_c ?_ pda_nil
    refine pd_bc oc_abs T.b_abs (by decide +kernel) ?_
    refine pda_c ?_ pda_nil
    exact (pd_var 1)
    refine pds_cons ?_ ?_
    refine pds_set (i := 2) ?_ sc_w_frac.nd
    refine pd_if ?_ ?_ ?_
    refine pdt_cmp od_gt ?_ pd_int
    exact (pd_var 1)
    exact (pd_var 2)
    refine pd_op od_sub pd_int ?_
    exact (pd_var 2)
    refine pds_one ?_
    refine pds_ret ?_
    refine pd_tup ?_
    refine pda_c ?_ ?_
    refine pd_op od_div ?_ ?_
    exact (pd_var 0)
    exact (pd_var 2)
    refine pda_c ?_ pda_nil
    refine pd_op od_div ?_ ?_
    exact (pd_var 1)
    exact (pd_var 2))

theorem ft_w_frac_2 (T : Txt P K mg base c) : FT P w K mg base 2 "_law_frac" (padF 2 [] (F_w_frac c)) := by
  obtain ⟨f, fd, hm, FD⟩ := T.fn_w_frac
  exact ⟨f, fd, _, _, _, hm, FD.kp, ok_w_frac T FD, (Bd.nil (FD.bindsN (fun _ _ _ _ _ _ us hl => match us, hl with | [_, _], _ => rfl))), rfl⟩

theorem ok_w_any_frac (T : Txt P K mg base c) {f : Addr} {fd : FuncData} (FD : FunD K "_law_any_frac" "_law_any_frac" (defArgs s_w_any_frac) (defBody s_w_any_frac) (defScope s_w_any_frac) [] [] f fd) : FnD P w K mg base 4 f fd ["_law_bag"] (F_w_any_frac c) := fnD_of (N := ["_law_bag", "_law_b", "_law_a"]) FD sc_w_any_frac (fun cdv A outer s H E hr => by
    refine pds_cons ?_ ?_
    refine pds_set (i := 1) ?_ sc_w_any_frac.nd
    refine pd_op od_add pd_int ?_
    refine pd_fun (ft_w_take_2 T) (hr.mono (by decide)) ?_
    refine pda_c ?_ ?_
    exact (pd_var 0)
    refine pda_c ?_ pda_nil
    refine pd_fun (ft_w_one_2 T) (hr.mono (by decide)) ?_
    refine pda_c ?_ ?_
    exact (pd_var 0)
    refine pda_c ?_ pda_nil
    refine pd_lst ?_
    refine pda_int ?_
    refine pda_int ?_
    refine pda_int ?_
    refine pda_int ?_
    refine pda_c ?_ pda_nil
    exact (pd_op od_pow pd_int pd_int)
    refine pds_cons ?_ ?_
    refine pds_set (i := 2) ?_ sc_w_any_frac.nd
    refine pd_fun (ft_w_take_2 T) (hr.mono (by decide)) ?_
    refine pda_c ?_ ?_
    exact (pd_var 0)
    refine pda_c ?_ pda_nil
    refine pd_fun (ft_w_one_2 T) (hr.mono (by decide)) ?_
    refine pda_c ?_ ?_
    exact (pd_var 0)
    refine pda_c ?_ pda_nil
    refine pd_lst ?_
    refine pda_int ?_
    refine pda_int ?_
    refine pda_c ?_ ?_
    refine pd_op od_add ?_ pd_int
    refine pd_op od_mul pd_int ?_
    exact (pd_var 1)
    refine pda_c ?_ pda_nil
    exact (pd_op od_pow pd_int pd_int)
    refine pds_one ?_
    refine pds_ret ?_
    refine pd_fun (ft_w_frac_2 T) (hr.mono (by decide)) ?_
    refine pda_c ?_ ?_
    refine pd_fun (ft_w_one_2 T) (hr.mono (by decide)) ?_
    refine pda_c ?_ ?_
    exact (pd_var 0)
    refine pda_c ?_ pda_nil
    refine pd_lst ?_
    refine pda_c ?_ ?_
    exact (pd_var 2)
    refine pda_c ?_ ?_
    exact (pd_var 2)
    refine pda_c ?_ pda_nil
    refine pd_op od_sub pd_int ?_
    exact (pd_var 2)
    refine pda_c ?_ pda_nil
    exact (pd_var 1))

theorem ft_w_any_frac_1 (T : Txt P K mg base c) : FT P w K mg base 4 "_law_any_frac" (padF 1 [] (F_w_any_frac c)) := by
  obtain ⟨f, fd, hm, FD⟩ := T.fn_w_any_frac
  exact ⟨f, fd, _, _, _, hm, FD.kp, ok_w_any_frac T FD, (Bd.nil (FD.bindsN (fun _ _ _ _ _ _ us hl => match us, hl with | [_], _ => rfl))), rfl⟩

theorem ok_is_whole (T : Txt P K mg base c) {f : Addr} {fd : FuncData} (FD : FunD K "is_whole" "is_whole" (defArgs s_is_whole) (defBody s_is_whole) (defScope s_is_whole) [] [] f fd) : FnD P w K mg base 1 f fd ["value"] (F_is_whole c) := fnD_of (N := ["value"]) FD sc_is_whole (fun cdv A outer s H E hr => by
    refine pds_one ?_
    refine pds_ret ?_
    refine pd_and ?_ ?_
    refine pd_isi ?_ (ClsV.ty _) (pd_bltn (v := .ty "int") (u := .type "int") T.b_int (by decide +kernel) rfl) T.ans_int T.b_isinstance
    exact (pd_var 0)
    refine pd_one ?_
    refine pd_not ?_
    refine pd_isi ?_ (ClsV.ty _) (pd_bltn (v := .ty "bool") (u := .type "bool") T.b_bool (by decide +kernel) rfl) T.ans_bool T.b_isinstance
    exact (pd_var 0))

theorem ft_is_whole_1 (T : Txt P K mg base c) : FT P w K mg base 1 "is_whole" (padF 1 [] (F_is_whole c)) := by
  obtain ⟨f, fd, hm, FD⟩ := T.fn_is_whole
  exact ⟨f, fd, _, _, _, hm, FD.kp, ok_is_whole T FD, (Bd.nil (FD.bindsN (fun _ _ _ _ _ _ us hl => match us, hl with | [_], _ => rfl))), rfl⟩

theorem ok_CycleErrorD_initD (T : Txt P K mg base c) {f cc : Addr} {fd : FuncData} (FD : FunS P K "__init__" "CycleError.__init__" (defArgs s_CycleErrorD_initD) (defBody s_CycleErrorD_initD) (defScope s_CycleErrorD_initD) [] f fd c.cCycleError cc) : FnD P w K mg base 1 f fd ["self", "code"] (F_CycleErrorD_initD c) := fnS_of (N := ["self", "code"]) FD sc_CycleErrorD_initD (fun cdv A outer s H E hcd hr => ⟨pdsat_supB (supCx_of FD hcd T.sup.1 T.sup.2.1 T.sup.2.2 rfl rfl rfl rfl ⟨_, rfl, rfl⟩) (by intro C hC; simp only [List.mem_cons, List.not_mem_nil, or_false] at hC; subst hC; exact T.sb_InvalidRatio_CycleError) (by
    refine pda_c ?_ pda_nil
    exact (pd_var 1)), by
    refine pds_one ?_
    refine pds_putX ?_ ?_ (by intro C hC; simp only [List.mem_cons, List.not_mem_nil, or_false] at hC; subst hC; exact ⟨T.ox_InvalidRatio, T.nx_InvalidRatio_code⟩)
    exact (pd_var 1)
    exact (pd_var 0)⟩)

theorem sm_CycleErrorD_initD_2_InvalidRatio (T : Txt P K mg base c) : SupM P w K mg base 1 c.cInvalidRatio [c.cInvalidRatio] "__init__" (padF 2 [] (F_CycleErrorD_initD c)) := by
  obtain ⟨f, fd, cc, h0, hf, h8, h9, u0, FD⟩ := T.me_CycleErrorD_initD
  exact ⟨f, fd, _, _, _, (by intro C hC; simp only [List.mem_cons, List.not_mem_nil, or_false] at hC; subst hC; exact u0), h8, h9, ok_CycleErrorD_initD T FD, (Bd.nil (by obtain ⟨oc, od, dV, kV, doc, pm, an, cda, ct, osl, e, _, _, hD, _⟩ := FD.ex; subst e; obtain rfl := dfl_nil hD; exact Binds.all (fun us hl => match us, hl with | [_, _], _ => rfl))), rfl⟩

theorem ok_InvalidRatioD_initD (T : Txt P K mg base c) {f cc : Addr} {fd : FuncData} (FD : FunS P K "__init__" "InvalidRatio.__init__" (defArgs s_InvalidRatioD_initD) (defBody s_InvalidRatioD_initD) (defScope s_InvalidRatioD_initD) [] f fd c.cInvalidRatio cc) : FnD P w K mg base 2 f fd ["self", "given"] (F_InvalidRatioD_initD c) := fnS_of (N := ["self", "given"]) FD sc_InvalidRatioD_initD (fun cdv A outer s H E hcd hr => ⟨pdsat_sup (k := 1) (supCx_of FD hcd T.sup.1 T.sup.2.1 T.sup.2.2 rfl rfl rfl rfl ⟨_, rfl, rfl⟩) (sm_CycleErrorD_initD_2_InvalidRatio T) (hr.mono (by decide)) (by
    exact (pda_str pda_nil)), by
    refine pds_one ?_
    refine pds_putX ?_ ?_ (by intro C hC; simp only [List.mem_cons, List.not_mem_nil, or_false] at hC; subst hC; exact ⟨T.ox_InvalidRatio, T.nx_InvalidRatio_given⟩)
    exact (pd_var 1)
    exact (pd_var 0)⟩)

theorem xt_InvalidRatio_1 (T : Txt P K mg base c) : XT P w K mg base 2 "InvalidRatio" c.cInvalidRatio (padF 2 [] (F_InvalidRatioD_initD c)) := by
  obtain ⟨f, fd, cc, h0, hf, h8, h9, FD⟩ := T.me_InvalidRatioD_initD
  exact ⟨T.gc_InvalidRatio, T.ox_InvalidRatio, f, fd, _, _, _, h0, h8, ok_InvalidRatioD_initD T FD, (Bd.nil (by obtain ⟨oc, od, dV, kV, doc, pm, an, cda, ct, osl, e, _, _, hD, _⟩ := FD.ex; subst e; obtain rfl := dfl_nil hD; exact Binds.all (fun us hl => match us, hl with | [_, _], _ => rfl))), rfl⟩

theorem ok_common_divisor (T : Txt P K mg base c) {f : Addr} {fd : FuncData} (FD : FunD K "common_divisor" "common_divisor" (defArgs s_common_divisor) (defBody s_common_divisor) (defScope s_common_divisor) [] [] f fd) : FnD P w K mg base 2 f fd ["one", "other"] (F_common_divisor c) := fnD_of (N := ["one", "other"]) FD sc_common_divisor (fun cdv A outer s H E hr => by
    refine pds_cons ?_ ?_
    refine pds_while ?_ ?_ (passes_of rfl)
    refine pdt_cmp (od_ne hr.units) ?_ pd_int
    exact (pd_var 1)
    refine pds_one ?_
    refine pds_par (i := 0) (j := 1) ?_ (by rfl) sc_common_divisor.nd
    refine pda_c ?_ ?_
    exact (pd_var 1)
    refine pda_c ?_ pda_nil
    refine pd_op od_mod ?_ ?_
    exact (pd_var 0)
    exact (pd_var 1)
    refine pds_one ?_
    refine pds_ret ?_
    exact (pd_var 0))

theorem ft_common_divisor_2 (T : Txt P K mg base c) : FT P w K mg base 2 "common_divisor" (padF 2 [] (F_common_divisor c)) := by
  obtain ⟨f, fd, hm, FD⟩ := T.fn_common_divisor
  exact ⟨f, fd, _, _, _, hm, FD.kp, ok_common_divisor T FD, (Bd.nil (FD.bindsN (fun _ _ _ _ _ _ us hl => match us, hl with | [_, _], _ => rfl))), rfl⟩

theorem ok_RatioD_initD (T : Txt P K mg base c) {f : Addr} {fd : FuncData} (FD : FunD K "__init__" "Ratio.__init__" (defArgs s_RatioD_initD) (defBody s_RatioD_initD) (defScope s_RatioD_initD) [.int 1] [] f fd) : FnD P w K mg base 4 f fd ["self", "top", "bottom"] (F_RatioD_initD c) := fnD_of (N := ["self", "top", "bottom", "divisor"]) FD sc_RatioD_initD (fun cdv A outer s H E hr => by
    refine pds_cons ?_ ?_
    refine pds_if ?_ ?_ pds_nil
    refine PDW.pt ?_
    refine pdw_or ?_ ?_
    refine pdt_not ?_
    refine pdt_val ?_
    refine pd_fun (ft_is_whole_1 T) (hr.mono (by decide)) ?_
    refine pda_c ?_ pda_nil
    exact (pd_var 1)
    refine pdw_or ?_ ?_
    refine pdt_not ?_
    refine pdt_val ?_
    refine pd_fun (ft_is_whole_1 T) (hr.mono (by decide)) ?_
    refine pda_c ?_ pda_nil
    exact (pd_var 2)
    refine pdw_or1 ?_
    refine pdt_cmp (od_eq hr.units) ?_ pd_int
    exact (pd_var 2)
    refine pds_one ?_
    refine pds_raise (k := 2) (xt_InvalidRatio_1 T) (hr.mono (by decide)) rfl ?_
    refine pda_c ?_ pda_nil
    refine pd_tup ?_
    refine pda_c ?_ ?_
    exact (pd_var 1)
    refine pda_c ?_ pda_nil
    exact (pd_var 2)
    refine pds_cons ?_ ?_
    refine pds_set (i := 3) ?_ sc_RatioD_initD.nd
    refine pd_fun (ft_common_divisor_2 T) (hr.mono (by decide)) ?_
    refine pda_c ?_ ?_
    refine pd_bc oc_abs T.b_abs (by decide +kernel) ?_
    refine pda_c ?_ pda_nil
    exact (pd_var 1)
    refine pda_c ?_ pda_nil
    refine pd_bc oc_abs T.b_abs (by decide +kernel) ?_
    refine pda_c ?_ pda_nil
    exact (pd_var 2)
    refine pds_cons ?_ ?_
    refine pds_set (i := 3) ?_ sc_RatioD_initD.nd
    refine pd_if ?_ ?_ ?_
    refine pdt_cmp od_lt ?_ pd_int
    exact (pd_var 2)
    refine pd_negI ?_
    exact (pd_var 3)
    exact (pd_var 3)
    refine pds_cons ?_ ?_
    refine pds_putF ?_ ?_ (by intro C hC; simp only [List.mem_cons, List.not_mem_nil, or_false] at hC; subst hC; exact ⟨T.cl_Ratio, T.fl_Ratio_own_top.no⟩)
    refine pd_op od_div ?_ ?_
    exact (pd_var 1)
    exact (pd_var 3)
    exact (pd_var 0)
    refine pds_one ?_
    refine pds_putF ?_ ?_ (by intro C hC; simp only [List.mem_cons, List.not_mem_nil, or_false] at hC; subst hC; exact ⟨T.cl_Ratio, T.fl_Ratio_own_bottom.no⟩)
    refine pd_op od_div ?_ ?_
    exact (pd_var 2)
    exact (pd_var 3)
    exact (pd_var 0))

theorem kt_Ratio_1 (T : Txt P K mg base c) : KT P w K mg base 4 "Ratio" c.cRatio (padF 3 [.int 1] (F_RatioD_initD c)) := by
  obtain ⟨f, fd, h0, hf, FD⟩ := T.me_RatioD_initD
  exact ⟨T.gc_Ratio, f, fd, _, _, _, ⟨T.mk_Ratio.1, h0, hf, T.mk_Ratio.2⟩, ok_RatioD_initD T FD, (bd_of (FD.binds1 2 0 (by simp) rfl (fun _ _ _ _ _ _ _ us its l1 l2 => match us, its, l1, l2 with | [_, _], [_], _, _ => ⟨_, rfl, rfl⟩)) (fun _ _ => .cons (.int _) .nil)), rfl⟩

theorem kt_Ratio_2 (T : Txt P K mg base c) : KT P w K mg base 4 "Ratio" c.cRatio (padF 3 [] (F_RatioD_initD c)) := by
  obtain ⟨f, fd, h0, hf, FD⟩ := T.me_RatioD_initD
  exact ⟨T.gc_Ratio, f, fd, _, _, _, ⟨T.mk_Ratio.1, h0, hf, T.mk_Ratio.2⟩, ok_RatioD_initD T FD, (bd_of (FD.binds1 3 1 (by simp) rfl (fun _ _ _ _ _ _ _ us its l1 l2 => match us, its, l1, l2 with | [_, _, _], [_], _, _ => ⟨_, rfl, rfl⟩)) (fun _ _ => .nil)), rfl⟩

theorem ok_w_made (T : Txt P K mg base c) {f : Addr} {fd : FuncData} (FD : FunD K "_law_made" "_law_made" (defArgs s_w_made) (defBody s_w_made) (defScope s_w_made) [] [] f fd) : FnD P w K mg base 6 f fd ["_law_p"] (F_w_made c) := fnD_of (N := ["_law_p"]) FD sc_w_made (fun cdv A outer s H E hr => by
    refine pds_one ?_
    refine pds_ret ?_
    refine pd_make (k := 4) (kt_Ratio_2 T) (hr.mono (by decide)) ?_
    refine pda_c ?_ ?_
    refine pd_ix ?_ pd_int
    exact (pd_var 0)
    refine pda_c ?_ pda_nil
    refine pd_ix ?_ pd_int
    exact (pd_var 0))

theorem ft_w_made_1 (T : Txt P K mg base c) : FT P w K mg base 6 "_law_made" (padF 1 [] (F_w_made c)) := by
  obtain ⟨f, fd, hm, FD⟩ := T.fn_w_made
  exact ⟨f, fd, _, _, _, hm, FD.kp, ok_w_made T FD, (Bd.nil (FD.bindsN (fun _ _ _ _ _ _ us hl => match us, hl with | [_], _ => rfl))), rfl⟩

theorem ok_Ratio_bottom (T : Txt P K mg base c) {f : Addr} {fd : FuncData} (FD : FunD K "bottom" "Ratio.bottom" (defArgs s_Ratio_bottom) (defBody s_Ratio_bottom) (defScope s_Ratio_bottom) [] [] f fd) : FnD P w K mg base 1 f fd ["self"] (F_Ratio_bottom c) := fnD_of (N := ["self"]) FD sc_Ratio_bottom (fun cdv A outer s H E hr => by
    refine pds_one ?_
    refine pds_ret ?_
    refine pd_fld ?_ (by intro r hr; simp only [List.mem_cons, List.not_mem_nil, or_false] at hr; subst hr; exact T.fl_Ratio_own_bottom)
    exact (pd_var 0))

theorem po_Ratio_Ratio_bottom (T : Txt P K mg base c) {k : Nat} (hk : 1 ≤ k) : PropOk P w K mg base k "bottom" c.kRatio (padF 1 [] (F_Ratio_bottom c)) := by
  obtain ⟨pp, g, fd, h0, FD⟩ := T.pr_Ratio_bottom
  exact ⟨T.cl_Ratio, pp, g, fd, _, _, h0, (ok_Ratio_bottom T FD).mono hk, (Bd.nil (FD.bindsN (fun _ _ _ _ _ _ us hl => match us, hl with | [_], _ => rfl))), rfl⟩

theorem ok_Ratio_top (T : Txt P K mg base c) {f : Addr} {fd : FuncData} (FD : FunD K "top" "Ratio.top" (defArgs s_Ratio_top) (defBody s_Ratio_top) (defScope s_Ratio_top) [] [] f fd) : FnD P w K mg base 1 f fd ["self"] (F_Ratio_top c) := fnD_of (N := ["self"]) FD sc_Ratio_top (fun cdv A outer s H E hr => by
    refine pds_one ?_
    refine pds_ret ?_
    refine pd_fld ?_ (by intro r hr; simp only [List.mem_cons, List.not_mem_nil, or_false] at hr; subst hr; exact T.fl_Ratio_own_top)
    exact (pd_var 0))

theorem po_Ratio_Ratio_top (T : Txt P K mg base c) {k : Nat} (hk : 1 ≤ k) : PropOk P w K mg base k "top" c.kRatio (padF 1 [] (F_Ratio_top c)) := by
  obtain ⟨pp, g, fd, h0, FD⟩ := T.pr_Ratio_top
  exact ⟨T.cl_Ratio, pp, g, fd, _, _, h0, (ok_Ratio_top T FD).mono hk, (Bd.nil (FD.bindsN (fun _ _ _ _ _ _ us hl => match us, hl with | [_], _ => rfl))), rfl⟩

theorem ok_RatioD_mulD (T : Txt P K mg base c) {f : Addr} {fd : FuncData} (FD : FunD K "__mul__" "Ratio.__mul__" (defArgs s_RatioD_mulD) (defBody s_RatioD_mulD) (defScope s_RatioD_mulD) [] [] f fd) : FnD P w K mg base 6 f fd ["self", "other"] (F_RatioD_mulD c) := fnD_of (N := ["self", "other"]) FD sc_RatioD_mulD (fun cdv A outer s H E hr => by
    refine pds_one ?_
    refine pds_ret ?_
    refine pd_make (k := 4) (kt_Ratio_2 T) (hr.mono (by decide)) ?_
    refine pda_c ?_ ?_
    refine pd_op od_mul ?_ ?_
    refine pd_fld ?_ (by intro r hr; simp only [List.mem_cons, List.not_mem_nil, or_false] at hr; subst hr; exact T.fl_Ratio_own_top)
    exact (pd_var 0)
    refine pd_prop (k := 1) ?_ (by intro r hr; simp only [List.mem_cons, List.not_mem_nil, or_false] at hr; subst hr; exact (po_Ratio_Ratio_top T (by decide))) (hr.mono (by decide))
    exact (pd_var 1)
    refine pda_c ?_ pda_nil
    refine pd_op od_mul ?_ ?_
    refine pd_fld ?_ (by intro r hr; simp only [List.mem_cons, List.not_mem_nil, or_false] at hr; subst hr; exact T.fl_Ratio_own_bottom)
    exact (pd_var 0)
    refine pd_prop (k := 1) ?_ (by intro r hr; simp only [List.mem_cons, List.not_mem_nil, or_false] at hr; subst hr; exact (po_Ratio_Ratio_bottom T (by decide))) (hr.mono (by decide))
    exact (pd_var 1))

theorem mt_Ratio_RatioD_mulD_2 (T : Txt P K mg base c) : MT P w K mg base 6 "__mul__" c.cRatio (padF 2 [] (F_RatioD_mulD c)) := by
  obtain ⟨f, fd, h0, hf, FD⟩ := T.me_RatioD_mulD
  exact ⟨f, fd, _, _, _, h0, hf, FD.kp, ok_RatioD_mulD T FD, (Bd.nil (FD.bindsN (fun _ _ _ _ _ _ us hl => match us, hl with | [_, _], _ => rfl))), rfl⟩

theorem mo_Ratio_RatioD_mulD_2 (T : Txt P K mg base c) {k : Nat} (hk : 6 ≤ k) : MethOk P w K mg base k "__mul__" c.kRatio (padF 2 [] (F_RatioD_mulD c)) := ⟨T.cl_Ratio, (mt_Ratio_RatioD_mulD_2 T).mono hk, (show ("__mul__" : Str) ∉ nsRatio from by decide +kernel)⟩

theorem ok_w_parts (T : Txt P K mg base c) {f : Addr} {fd : FuncData} (FD : FunD K "_law_parts" "_law_parts" (defArgs s_w_parts) (defBody s_w_parts) (defScope s_w_parts) [] [] f fd) : FnD P w K mg base 3 f fd ["_law_found"] (F_w_parts c) := fnD_of (N := ["_law_found"]) FD sc_w_parts (fun cdv A outer s H E hr => by
    refine pds_one ?_
    refine pds_ret ?_
    refine pd_if ?_ ?_ pd_non
    refine pdt_val ?_
    refine pd_isi ?_ (ClsV.own _) (pd_glob (RepA.val _) T.gc_Ratio rfl) T.ans_Ratio__Ratio T.b_isinstance
    exact (pd_var 0)
    refine pd_tup ?_
    refine pda_c ?_ ?_
    refine pd_prop (k := 1) ?_ (by intro r hr; simp only [List.mem_cons, List.not_mem_nil, or_false] at hr; subst hr; exact (po_Ratio_Ratio_top T (by decide))) (hr.mono (by decide))
    exact (pd_var 0)
    refine pda_c ?_ pda_nil
    refine pd_prop (k := 1) ?_ (by intro r hr; simp only [List.mem_cons, List.not_mem_nil, or_false] at hr; subst hr; exact (po_Ratio_Ratio_bottom T (by decide))) (hr.mono (by decide))
    exact (pd_var 0))

theorem ft_w_parts_1 (T : Txt P K mg base c) : FT P w K mg base 3 "_law_parts" (padF 1 [] (F_w_parts c)) := by
  obtain ⟨f, fd, hm, FD⟩ := T.fn_w_parts
  exact ⟨f, fd, _, _, _, hm, FD.kp, ok_w_parts T FD, (Bd.nil (FD.bindsN (fun _ _ _ _ _ _ us hl => match us, hl with | [_], _ => rfl))), rfl⟩

theorem ok_RatioD_subD (T : Txt P K mg base c) {f : Addr} {fd : FuncData} (FD : FunD K "__sub__" "Ratio.__sub__" (defArgs s_RatioD_subD) (defBody s_RatioD_subD) (defScope s_RatioD_subD) [] [] f fd) : FnD P w K mg base 6 f fd ["self", "other"] (F_RatioD_subD c) := fnD_of (N := ["self", "other"]) FD sc_RatioD_subD (fun cdv A outer s H E hr => by
    refine pds_one ?_
    refine pds_ret ?_
    refine pd_make (k := 4) (kt_Ratio_2 T) (hr.mono (by decide)) ?_
    refine pda_c ?_ ?_
    refine pd_op od_sub ?_ ?_
    refine pd_op od_mul ?_ ?_
    refine pd_fld ?_ (by intro r hr; simp only [List.mem_cons, List.not_mem_nil, or_false] at hr; subst hr; exact T.fl_Ratio_own_top)
    exact (pd_var 0)
    refine pd_prop (k := 1) ?_ (by intro r hr; simp only [List.mem_cons, List.not_mem_nil, or_false] at hr; subst hr; exact (po_Ratio_Ratio_bottom T (by decide))) (hr.mono (by decide))
    exact (pd_var 1)
    refine pd_op od_mul ?_ ?_
    refine pd_prop (k := 1) ?_ (by intro r hr; simp only [List.mem_cons, List.not_mem_nil, or_false] at hr; subst hr; exact (po_Ratio_Ratio_top T (by decide))) (hr.mono (by decide))
    exact (pd_var 1)
    refine pd_fld ?_ (by intro r hr; simp only [List.mem_cons, List.not_mem_nil, or_false] at hr; subst hr; exact T.fl_Ratio_own_bottom)
    exact (pd_var 0)
    refine pda_c ?_ pda_nil
    refine pd_op od_mul ?_ ?_
    refine pd_fld ?_ (by intro r hr; simp only [List.mem_cons, List.not_mem_nil, or_false] at hr; subst hr; exact T.fl_Ratio_own_bottom)
    exact (pd_var 0)
    refine pd_prop (k := 1) ?_ (by intro r hr; simp only [List.mem_cons, List.not_mem_nil, or_false] at hr; subst hr; exact (po_Ratio_Ratio_bottom T (by decide))) (hr.mono (by decide))
    exact (pd_var 1))

theorem mt_Ratio_RatioD_subD_2 (T : Txt P K mg base c) : MT P w K mg base 6 "__sub__" c.cRatio (padF 2 [] (F_RatioD_subD c)) := by
  obtain ⟨f, fd, h0, hf, FD⟩ := T.me_RatioD_subD
  exact ⟨f, fd, _, _, _, h0, hf, FD.kp, ok_RatioD_subD T FD, (Bd.nil (FD.bindsN (fun _ _ _ _ _ _ us hl => match us, hl with | [_, _], _ => rfl))), rfl⟩

theorem mo_Ratio_RatioD_subD_2 (T : Txt P K mg base c) {k : Nat} (hk : 6 ≤ k) : MethOk P w K mg base k "__sub__" c.kRatio (padF 2 [] (F_RatioD_subD c)) := ⟨T.cl_Ratio, (mt_Ratio_RatioD_subD_2 T).mono hk, (show ("__sub__" : Str) ∉ nsRatio from by decide +kernel)⟩

theorem ok_RatioD_addD (T : Txt P K mg base c) {f : Addr} {fd : FuncData} (FD : FunD K "__add__" "Ratio.__add__" (defArgs s_RatioD_addD) (defBody s_RatioD_addD) (defScope s_RatioD_addD) [] [] f fd) : FnD P w K mg base 6 f fd ["self", "other"] (F_RatioD_addD c) := fnD_of (N := ["self", "other"]) FD sc_RatioD_addD (fun cdv A outer s H E hr => by
    refine pds_one ?_
    refine pds_ret ?_
    refine pd_make (k := 4) (kt_Ratio_2 T) (hr.mono (by decide)) ?_
    refine pda_c ?_ ?_
    refine pd_op od_add ?_ ?_
    refine pd_op od_mul ?_ ?_
    refine pd_fld ?_ (by intro r hr; simp only [List.mem_cons, List.not_mem_nil, or_false] at hr; subst hr; exact T.fl_Ratio_own_top)
    exact (pd_var 0)
    refine pd_prop (k := 1) ?_ (by intro r hr; simp only [List.mem_cons, List.not_mem_nil, or_false] at hr; subst hr; exact (po_Ratio_Ratio_bottom T (by decide))) (hr.mono (by decide))
    exact (pd_var 1)
    refine pd_op od_mul ?_ ?_
    refine pd_prop (k := 1) ?_ (by intro r hr; simp only [List.mem_cons, List.not_mem_nil, or_false] at hr; subst hr; exact (po_Ratio_Ratio_top T (by decide))) (hr.mono (by decide))
    exact (pd_var 1)
    refine pd_fld ?_ (by intro r hr; simp only [List.mem_cons, List.not_mem_nil, or_false] at hr; subst hr; exact T.fl_Ratio_own_bottom)
    exact (pd_var 0)
    refine pda_c ?_ pda_nil
    refine pd_op od_mul ?_ ?_
    refine pd_fld ?_ (by intro r hr; simp only [List.mem_cons, List.not_mem_nil, or_false] at hr; subst hr; exact T.fl_Ratio_own_bottom)
    exact (pd_var 0)
    refine pd_prop (k := 1) ?_ (by intro r hr; simp only [List.mem_cons, List.not_mem_nil, or_false] at hr; subst hr; exact (po_Ratio_Ratio_bottom T (by decide))) (hr.mono (by decide))
    exact (pd_var 1))

theorem mt_Ratio_RatioD_addD_2 (T : Txt P K mg base c) : MT P w K mg base 6 "__add__" c.cRatio (padF 2 [] (F_RatioD_addD c)) := by
  obtain ⟨f, fd, h0, hf, FD⟩ := T.me_RatioD_addD
  exact ⟨f, fd, _, _, _, h0, hf, FD.kp, ok_RatioD_addD T FD, (Bd.nil (FD.bindsN (fun _ _ _ _ _ _ us hl => match us, hl with | [_, _], _ => rfl))), rfl⟩

theorem mo_Ratio_RatioD_addD_2 (T : Txt P K mg base c) {k : Nat} (hk : 6 ≤ k) : MethOk P w K mg base k "__add__" c.kRatio (padF 2 [] (F_RatioD_addD c)) := ⟨T.cl_Ratio, (mt_Ratio_RatioD_addD_2 T).mono hk, (show ("__add__" : Str) ∉ nsRatio from by decide +kernel)⟩

theorem ok_w_times (T : Txt P K mg base c) {f : Addr} {fd : FuncData} (FD : FunD K "_law_times" "_law_times" (defArgs s_w_times) (defBody s_w_times) (defScope s_w_times) [] [] f fd) : FnD P w K mg base 3 f fd ["_law_p", "_law_q"] (F_w_times c) := fnD_of (N := ["_law_p", "_law_q"]) FD sc_w_times (fun cdv A outer s H E hr => by
    refine pds_one ?_
    refine pds_ret ?_
    refine pd_fun (ft_w_frac_2 T) (hr.mono (by decide)) ?_
    refine pda_c ?_ ?_
    refine pd_op od_mul ?_ ?_
    refine pd_ix ?_ pd_int
    exact (pd_var 0)
    refine pd_ix ?_ pd_int
    exact (pd_var 1)
    refine pda_c ?_ pda_nil
    refine pd_op od_mul ?_ ?_
    refine pd_ix ?_ pd_int
    exact (pd_var 0)
    refine pd_ix ?_ pd_int
    exact (pd_var 1))

theorem ft_w_times_2 (T : Txt P K mg base c) : FT P w K mg base 3 "_law_times" (padF 2 [] (F_w_times c)) := by
  obtain ⟨f, fd, hm, FD⟩ := T.fn_w_times
  exact ⟨f, fd, _, _, _, hm, FD.kp, ok_w_times T FD, (Bd.nil (FD.bindsN (fun _ _ _ _ _ _ us hl => match us, hl with | [_, _], _ => rfl))), rfl⟩

theorem ok_w_minus (T : Txt P K mg base c) {f : Addr} {fd : FuncData} (FD : FunD K "_law_minus" "_law_minus" (defArgs s_w_minus) (defBody s_w_minus) (defScope s_w_minus) [] [] f fd) : FnD P w K mg base 3 f fd ["_law_p", "_law_q"] (F_w_minus c) := fnD_of (N := ["_law_p", "_law_q"]) FD sc_w_minus (fun cdv A outer s H E hr => by
    refine pds_one ?_
    refine pds_ret ?_
    refine pd_fun (ft_w_frac_2 T) (hr.mono (by decide)) ?_
    refine pda_c ?_ ?_
    refine pd_op od_sub ?_ ?_
    refine pd_op od_mul ?_ ?_
    refine pd_ix ?_ pd_int
    exact (pd_var 0)
    refine pd_ix ?_ pd_int
    exact (pd_var 1)
    refine pd_op od_mul ?_ ?_
    refine pd_ix ?_ pd_int
    exact (pd_var 1)
    refine pd_ix ?_ pd_int
    exact (pd_var 0)
    refine pda_c ?_ pda_nil
    refine pd_op od_mul ?_ ?_
    refine pd_ix ?_ pd_int
    exact (pd_var 0)
    refine pd_ix ?_ pd_int
    exact (pd_var 1))

theorem ft_w_minus_2 (T : Txt P K mg base c) : FT P w K mg base 3 "_law_minus" (padF 2 [] (F_w_minus c)) := by
  obtain ⟨f, fd, hm, FD⟩ := T.fn_w_minus
  exact ⟨f, fd, _, _, _, hm, FD.kp, ok_w_minus T FD, (Bd.nil (FD.bindsN (fun _ _ _ _ _ _ us hl => match us, hl with | [_, _], _ => rfl))), rfl⟩

theorem ok_w_plus (T : Txt P K mg base c) {f : Addr} {fd : FuncData} (FD : FunD K "_law_plus" "_law_plus" (defArgs s_w_plus) (defBody s_w_plus) (defScope s_w_plus) [] [] f fd) : FnD P w K mg base 3 f fd ["_law_p", "_law_q"] (F_w_plus c) := fnD_of (N := ["_law_p", "_law_q"]) FD sc_w_plus (fun cdv A outer s H E hr => by
    refine pds_one ?_
    refine pds_ret ?_
    refine pd_fun (ft_w_frac_2 T) (hr.mono (by decide)) ?_
    refine pda_c ?_ ?_
    refine pd_op od_add ?_ ?_
    refine pd_op od_mul ?_ ?_
    refine pd_ix ?_ pd_int
    exact (pd_var 0)
    refine pd_ix ?_ pd_int
    exact (pd_var 1)
    refine pd_op od_mul ?_ ?_
    refine pd_ix ?_ pd_int
    exact (pd_var 1)
    refine pd_ix ?_ pd_int
    exact (pd_var 0)
    refine pda_c ?_ pda_nil
    refine pd_op od_mul ?_ ?_
    refine pd_ix ?_ pd_int
    exact (pd_var 0)
    refine pd_ix ?_ pd_int
    exact (pd_var 1))

theorem ft_w_plus_2 (T : Txt P K mg base c) : FT P w K mg base 3 "_law_plus" (padF 2 [] (F_w_plus c)) := by
  obtain ⟨f, fd, hm, FD⟩ := T.fn_w_plus
  exact ⟨f, fd, _, _, _, hm, FD.kp, ok_w_plus T FD, (Bd.nil (FD.bindsN (fun _ _ _ _ _ _ us hl => match us, hl with | [_, _], _ => rfl))), rfl⟩

theorem ft_w_like_2 (T : Txt P K mg base c) : ∀ n : Nat, FT P w K mg base (n + 2) "_law_like" (padF 2 [] (F_w_like c n))
  | 0 => by
    obtain ⟨f, fd, hm, FD⟩ := T.fn_w_like
    exact ⟨f, fd, ["_law_found", "_law_due"], [], F_w_like c 0, hm, FD.kp, FnOk.mono (fnD_none FD sc_w_like) (by omega), (Bd.nil (FD.bindsN (fun _ _ _ _ _ _ us hl => match us, hl with | [_, _], _ => rfl))), rfl⟩
  | n + 1 => by
    have ih := ft_w_like_2 T n
    obtain ⟨f, fd, hm, FD⟩ := T.fn_w_like
    exact ⟨f, fd, ["_law_found", "_law_due"], [], F_w_like c (n + 1), hm, FD.kp, fnD_of (k := n + 2) FD sc_w_like (fun cdv A outer s H E hr => by
      refine pds_cons ?_ ?_
      refine pds_if ?_ ?_ pds_nil
      refine PDW.pt ?_
      refine pdw_or ?_ ?_
      refine pdt_cmp od_isN ?_ pd_non
      exact (pd_var 1)
      refine pdw_or1 ?_
      refine pdt_cmp od_isN ?_ pd_non
      exact (pd_var 0)
      refine pds_one ?_
      refine pds_ret ?_
      refine pd_and ?_ ?_
      refine pd_cmp od_isN ?_ pd_non
      exact (pd_var 1)
      refine pd_one ?_
      refine pd_cmp od_isN ?_ pd_non
      exact (pd_var 0)
      refine pds_cons ?_ ?_
      refine pds_if ?_ ?_ pds_nil
      refine pdt_val ?_
      refine pd_isiT ?_ (.cons (ClsV.ty _) (.cons (ClsV.ty _) .nil)) (pda_c (pd_bltn (v := .ty "list") (u := .type "list") T.b_list (by decide +kernel) rfl) (pda_c (pd_bltn (v := .ty "tuple") (u := .type "tuple") T.b_tuple (by decide +kernel) rfl) pda_nil)) (by decide) T.ans_list_tuple T.b_isinstance
      exact (pd_var 1)
      refine pds_cons ?_ ?_
      refine pds_if ?_ ?_ pds_nil
      refine PDW.pt ?_
      refine pdw_or ?_ ?_
      refine pdt_cmp (od_ne hr.units) ?_ ?_
      refine pd_isi ?_ (ClsV.ty _) (pd_bltn (v := .ty "list") (u := .type "list") T.b_list (by decide +kernel) rfl) T.ans_list T.b_isinstance
      exact (pd_var 0)
      refine pd_isi ?_ (ClsV.ty _) (pd_bltn (v := .ty "list") (u := .type "list") T.b_list (by decide +kernel) rfl) T.ans_list T.b_isinstance
      exact (pd_var 1)
      refine pdw_or1 ?_
      refine pdt_cmp (od_ne hr.units) ?_ ?_
      refine pd_isi ?_ (ClsV.ty _) (pd_bltn (v := .ty "tuple") (u := .type "tuple") T.b_tuple (by decide +kernel) rfl) T.ans_tuple T.b_isinstance
      exact (pd_var 0)
      refine pd_isi ?_ (ClsV.ty _) (pd_bltn (v := .ty "tuple") (u := .type "tuple") T.b_tuple (by decide +kernel) rfl) T.ans_tuple T.b_isinstance
      exact (pd_var 1)
      refine pds_one ?_
      exact (pds_ret pd_bl)
      refine pds_one ?_
      refine pds_ret ?_
      refine pd_and ?_ ?_
      refine pd_cmp (od_eq hr.units) ?_ ?_
      refine pd_bc oc_len T.b_len (by decide +kernel) ?_
      refine pda_c ?_ pda_nil
      exact (pd_var 0)
      refine pd_bc oc_len T.b_len (by decide +kernel) ?_
      refine pda_c ?_ pda_nil
      exact (pd_var 1)
      refine pd_one ?_
      refine pd_bc (oc_all (by rfl)) T.b_all (by decide +kernel) ?_
      refine pda_c ?_ pda_nil
      refine pd_lc ?_ sc_w_like.nd (blkOk_by (own := [("_law_one_here", 2), ("_law_two", 3)]) (by rfl)) (fun _ _ _ _ _ => (pdg_tup (n := 2) (by rfl) (pdgs_cons (pdg_name 2 sc_w_like.nd) (pdgs_cons (pdg_name 3 sc_w_like.nd) pdgs_nil)))) ?_ ?_ (by rfl)
      refine pdi_zip T.b_zip ?_
      refine pda_c ?_ ?_
      exact (pd_var 0)
      refine pda_c ?_ pda_nil
      exact (pd_var 1)
      intro _ _ _ _ _
      exact (pdts_nil)
      intro _ _ _ _ _
      refine pd_fun (ih) (hr.mono (by omega)) ?_
      refine pda_c ?_ ?_
      exact (pd_var 2)
      refine pda_c ?_ pda_nil
      exact (pd_var 3)
      refine pds_cons ?_ ?_
      refine pds_if ?_ ?_ pds_nil
      refine PDW.pt ?_
      refine pdw_or ?_ ?_
      refine pdt_cmp (od_ne hr.units) ?_ ?_
      refine pd_isi ?_ (ClsV.ty _) (pd_bltn (v := .ty "bool") (u := .type "bool") T.b_bool (by decide +kernel) rfl) T.ans_bool T.b_isinstance
      exact (pd_var 0)
      refine pd_isi ?_ (ClsV.ty _) (pd_bltn (v := .ty "bool") (u := .type "bool") T.b_bool (by decide +kernel) rfl) T.ans_bool T.b_isinstance
      exact (pd_var 1)
      refine pdw_or1 ?_
      refine pdt_cmp (od_ne hr.units) ?_ ?_
      refine pd_isi ?_ (ClsV.ty _) (pd_bltn (v := .ty "int") (u := .type "int") T.b_int (by decide +kernel) rfl) T.ans_int T.b_isinstance
      exact (pd_var 0)
      refine pd_isi ?_ (ClsV.ty _) (pd_bltn (v := .ty "int") (u := .type "int") T.b_int (by decide +kernel) rfl) T.ans_int T.b_isinstance
      exact (pd_var 1)
      refine pds_one ?_
      exact (pds_ret pd_bl)
      refine pds_one ?_
      refine pds_ret ?_
      refine pd_and ?_ ?_
      refine pd_cmp (od_eq hr.units) ?_ ?_
      refine pd_isi ?_ (ClsV.ty _) (pd_bltn (v := .ty "str") (u := .type "str") T.b_str (by decide +kernel) rfl) T.ans_str T.b_isinstance
      exact (pd_var 0)
      refine pd_isi ?_ (ClsV.ty _) (pd_bltn (v := .ty "str") (u := .type "str") T.b_str (by decide +kernel) rfl) T.ans_str T.b_isinstance
      exact (pd_var 1)
      refine pd_one ?_
      refine pd_cmp (od_eq hr.units) ?_ ?_
      exact (pd_var 0)
      exact (pd_var 1)), (Bd.nil (FD.bindsN (fun _ _ _ _ _ _ us hl => match us, hl with | [_, _], _ => rfl))), rfl⟩

theorem ok_w_less (T : Txt P K mg base c) {f : Addr} {fd : FuncData} (FD : FunD K "_law_less" "_law_less" (defArgs s_w_less) (defBody s_w_less) (defScope s_w_less) [] [] f fd) : FnD P w K mg base 1 f fd ["_law_p", "_law_q"] (F_w_less c) := fnD_of (N := ["_law_p", "_law_q"]) FD sc_w_less (fun cdv A outer s H E hr => by
    refine pds_one ?_
    refine pds_ret ?_
    refine pd_cmp od_lt ?_ ?_
    refine pd_op od_mul ?_ ?_
    refine pd_ix ?_ pd_int
    exact (pd_var 0)
    refine pd_ix ?_ pd_int
    exact (pd_var 1)
    refine pd_op od_mul ?_ ?_
    refine pd_ix ?_ pd_int
    exact (pd_var 1)
    refine pd_ix ?_ pd_int
    exact (pd_var 0))

theorem ft_w_less_2 (T : Txt P K mg base c) : FT P w K mg base 1 "_law_less" (padF 2 [] (F_w_less c)) := by
  obtain ⟨f, fd, hm, FD⟩ := T.fn_w_less
  exact ⟨f, fd, _, _, _, hm, FD.kp, ok_w_less T FD, (Bd.nil (FD.bindsN (fun _ _ _ _ _ _ us hl => match us, hl with | [_, _], _ => rfl))), rfl⟩

theorem ok_Ratio_is_below (T : Txt P K mg base c) {f : Addr} {fd : FuncData} (FD : FunD K "is_below" "Ratio.is_below" (defArgs s_Ratio_is_below) (defBody s_Ratio_is_below) (defScope s_Ratio_is_below) [] [] f fd) : FnD P w K mg base 3 f fd ["self", "other"] (F_Ratio_is_below c) := fnD_of (N := ["self", "other"]) FD sc_Ratio_is_below (fun cdv A outer s H E hr => by
    refine pds_one ?_
    refine pds_ret ?_
    refine pd_cmp od_lt ?_ ?_
    refine pd_op od_mul ?_ ?_
    refine pd_fld ?_ (by intro r hr; simp only [List.mem_cons, List.not_mem_nil, or_false] at hr; subst hr; exact T.fl_Ratio_own_top)
    exact (pd_var 0)
    refine pd_prop (k := 1) ?_ (by intro r hr; simp only [List.mem_cons, List.not_mem_nil, or_false] at hr; subst hr; exact (po_Ratio_Ratio_bottom T (by decide))) (hr.mono (by decide))
    exact (pd_var 1)
    refine pd_op od_mul ?_ ?_
    refine pd_prop (k := 1) ?_ (by intro r hr; simp only [List.mem_cons, List.not_mem_nil, or_false] at hr; subst hr; exact (po_Ratio_Ratio_top T (by decide))) (hr.mono (by decide))
    exact (pd_var 1)
    refine pd_fld ?_ (by intro r hr; simp only [List.mem_cons, List.not_mem_nil, or_false] at hr; subst hr; exact T.fl_Ratio_own_bottom)
    exact (pd_var 0))

theorem mtk_Ratio_Ratio_is_below_0_other (T : Txt P K mg base c) {k : Nat} (hk : 3 ≤ k) : MTK P w K mg base k "is_below" 0 ["other"] c.kRatio (GK_Ratio_is_below_0_other c) := by
  obtain ⟨f, fd, h0, hf, FD⟩ := T.me_Ratio_is_below
  have hok := (ok_Ratio_is_below (P := P) (w := w) (base := base) T FD).mono hk
  have hkp := FD.kp
  obtain ⟨oc, od, dV, kV, doc, pm, an, cdv, ct, osl, rfl, lk, hcd, hD, hK⟩ := FD.ex
  obtain rfl := dfl_nil hD
  exact ⟨T.cl_Ratio, (show ("is_below" : Str) ∉ nsRatio from by decide +kernel), f, _, _, [0, 1], [], _, h0, hf, hkp, hok, ⟨[], [], .nil, fun _ _ => .nil, fun s us ws _ l1 l2 => match us, ws, l1, l2 with | [_], [_], _, _ => ⟨.of_eq rfl, rfl⟩⟩, rfl⟩

theorem mt_Ratio_Ratio_is_below_2 (T : Txt P K mg base c) : MT P w K mg base 3 "is_below" c.cRatio (padF 2 [] (F_Ratio_is_below c)) := by
  obtain ⟨f, fd, h0, hf, FD⟩ := T.me_Ratio_is_below
  exact ⟨f, fd, _, _, _, h0, hf, FD.kp, ok_Ratio_is_below T FD, (Bd.nil (FD.bindsN (fun _ _ _ _ _ _ us hl => match us, hl with | [_, _], _ => rfl))), rfl⟩

theorem mo_Ratio_Ratio_is_below_2 (T : Txt P K mg base c) {k : Nat} (hk : 3 ≤ k) : MethOk P w K mg base k "is_below" c.kRatio (padF 2 [] (F_Ratio_is_below c)) := ⟨T.cl_Ratio, (mt_Ratio_Ratio_is_below_2 T).mono hk, (show ("is_below" : Str) ∉ nsRatio from by decide +kernel)⟩

theorem ok_RatioD_boolD (T : Txt P K mg base c) {f : Addr} {fd : FuncData} (FD : FunD K "__bool__" "Ratio.__bool__" (defArgs s_RatioD_boolD) (defBody s_RatioD_boolD) (defScope s_RatioD_boolD) [] [] f fd) : FnD P w K mg base 1 f fd ["self"] (F_RatioD_boolD c) := fnD_of (N := ["self"]) FD sc_RatioD_boolD (fun cdv A outer s H E hr => by
    refine pds_one ?_
    refine pds_ret ?_
    refine pd_bt oc_bool T.b_bool (by decide +kernel) ?_
    refine pda_c ?_ pda_nil
    refine pd_fld ?_ (by intro r hr; simp only [List.mem_cons, List.not_mem_nil, or_false] at hr; subst hr; exact T.fl_Ratio_own_top)
    exact (pd_var 0))

theorem mt_Ratio_RatioD_boolD_1 (T : Txt P K mg base c) : MT P w K mg base 1 "__bool__" c.cRatio (padF 1 [] (F_RatioD_boolD c)) := by
  obtain ⟨f, fd, h0, hf, FD⟩ := T.me_RatioD_boolD
  exact ⟨f, fd, _, _, _, h0, hf, FD.kp, ok_RatioD_boolD T FD, (Bd.nil (FD.bindsN (fun _ _ _ _ _ _ us hl => match us, hl with | [_], _ => rfl))), rfl⟩

theorem mo_Ratio_RatioD_boolD_1 (T : Txt P K mg base c) {k : Nat} (hk : 1 ≤ k) : MethOk P w K mg base k "__bool__" c.kRatio (padF 1 [] (F_RatioD_boolD c)) := ⟨T.cl_Ratio, (mt_Ratio_RatioD_boolD_1 T).mono hk, (show ("__bool__" : Str) ∉ nsRatio from by decide +kernel)⟩

theorem ok_Ratio_over (T : Txt P K mg base c) {f : Addr} {fd : FuncData} (FD : FunD K "over" "Ratio.over" (defArgs s_Ratio_over) (defBody s_Ratio_over) (defScope s_Ratio_over) [] [] f fd) : FnD P w K mg base 6 f fd ["self", "other"] (F_Ratio_over c) := fnD_of (N := ["self", "other"]) FD sc_Ratio_over (fun cdv A outer s H E hr => by
    refine pds_cons ?_ ?_
    refine pds_if ?_ ?_ pds_nil
    refine pdt_not ?_
    refine pdt_truthO (k := 1) ?_ (by intro r hr; simp only [List.mem_cons, List.not_mem_nil, or_false] at hr; subst hr; exact (((mt_Ratio_RatioD_boolD_1 T)).mono (by decide))) (hr.mono (by decide))
    exact (pd_var 1)
    refine pds_one ?_
    refine pds_raise (k := 2) (xt_InvalidRatio_1 T) (hr.mono (by decide)) rfl ?_
    refine pda_c ?_ pda_nil
    exact (pd_var 1)
    refine pds_one ?_
    refine pds_ret ?_
    refine pd_make (k := 4) (kt_Ratio_2 T) (hr.mono (by decide)) ?_
    refine pda_c ?_ ?_
    refine pd_op od_mul ?_ ?_
    refine pd_fld ?_ (by intro r hr; simp only [List.mem_cons, List.not_mem_nil, or_false] at hr; subst hr; exact T.fl_Ratio_own_top)
    exact (pd_var 0)
    refine pd_prop (k := 1) ?_ (by intro r hr; simp only [List.mem_cons, List.not_mem_nil, or_false] at hr; subst hr; exact (po_Ratio_Ratio_bottom T (by decide))) (hr.mono (by decide))
    exact (pd_var 1)
    refine pda_c ?_ pda_nil
    refine pd_op od_mul ?_ ?_
    refine pd_fld ?_ (by intro r hr; simp only [List.mem_cons, List.not_mem_nil, or_false] at hr; subst hr; exact T.fl_Ratio_own_bottom)
    exact (pd_var 0)
    refine pd_prop (k := 1) ?_ (by intro r hr; simp only [List.mem_cons, List.not_mem_nil, or_false] at hr; subst hr; exact (po_Ratio_Ratio_top T (by decide))) (hr.mono (by decide))
    exact (pd_var 1))

theorem mtk_Ratio_Ratio_over_0_other (T : Txt P K mg base c) {k : Nat} (hk : 6 ≤ k) : MTK P w K mg base k "over" 0 ["other"] c.kRatio (GK_Ratio_over_0_other c) := by
  obtain ⟨f, fd, h0, hf, FD⟩ := T.me_Ratio_over
  have hok := (ok_Ratio_over (P := P) (w := w) (base := base) T FD).mono hk
  have hkp := FD.kp
  obtain ⟨oc, od, dV, kV, doc, pm, an, cdv, ct, osl, rfl, lk, hcd, hD, hK⟩ := FD.ex
  obtain rfl := dfl_nil hD
  exact ⟨T.cl_Ratio, (show ("over" : Str) ∉ nsRatio from by decide +kernel), f, _, _, [0, 1], [], _, h0, hf, hkp, hok, ⟨[], [], .nil, fun _ _ => .nil, fun s us ws _ l1 l2 => match us, ws, l1, l2 with | [_], [_], _, _ => ⟨.of_eq rfl, rfl⟩⟩, rfl⟩

theorem mt_Ratio_Ratio_over_2 (T : Txt P K mg base c) : MT P w K mg base 6 "over" c.cRatio (padF 2 [] (F_Ratio_over c)) := by
  obtain ⟨f, fd, h0, hf, FD⟩ := T.me_Ratio_over
  exact ⟨f, fd, _, _, _, h0, hf, FD.kp, ok_Ratio_over T FD, (Bd.nil (FD.bindsN (fun _ _ _ _ _ _ us hl => match us, hl with | [_, _], _ => rfl))), rfl⟩

theorem mo_Ratio_Ratio_over_2 (T : Txt P K mg base c) {k : Nat} (hk : 6 ≤ k) : MethOk P w K mg base k "over" c.kRatio (padF 2 [] (F_Ratio_over c)) := ⟨T.cl_Ratio, (mt_Ratio_Ratio_over_2 T).mono hk, (show ("over" : Str) ∉ nsRatio from by decide +kernel)⟩

theorem lo_0 (T : Txt P K mg base c) : LamOk P w K mg base 7 0 (L_0 c) := lamOk_of (k := 0) (by decide +kernel) lb_0 (fun g f c' A outer s H E hr => by
    refine pd_meth (k := 6) ?_ (by intro r hr; simp only [List.mem_cons, List.not_mem_nil, or_false] at hr; subst hr; exact (mo_Ratio_Ratio_over_2 T (by decide))) (hr.mono (by decide)) ?_
    exact (pd_var 1)
    refine pda_c ?_ pda_nil
    exact (pd_var 0))

theorem lto_LT0 (T : Txt P K mg base c) : ∀ r ∈ LT0 c, LamOk P w K mg base 7 r.1 r.2 := by
  intro r hr; unfold LT0 at hr; simp only [List.mem_cons, List.not_mem_nil, or_false] at hr
  subst hr; exact (lo_0 T).mono (by decide)

theorem ok_w_field (T : Txt P K mg base c) {f : Addr} {fd : FuncData} (FD : FunD K "_law_field" "_law_field" (defArgs s_w_field) (defBody s_w_field) (defScope s_w_field) [] [] f fd) : FnDQ P w K mg base 2 f fd ["_law_e"] (F_w_field c) := fnDQ_of (N := ["_law_e"]) FD sc_w_field (fun cdv A outer s H E hr => by
    refine pds_cons ?_ ?_
    refine pds_if ?_ ?_ pds_nil
    refine pdt_cmp od_in ?_ ?_ (by rfl)
    refine pd_xf ?_ (by intro C hC; simp only [List.mem_cons, List.not_mem_nil, or_false] at hC; subst hC; exact ⟨T.xf_InvalidRatio, T.nx_InvalidRatio_code⟩)
    exact (pd_var 0)
    refine pd_lst ?_
    refine pda_str ?_
    exact (pda_str pda_nil)
    refine pds_one ?_
    refine pds_ret ?_
    refine pd_tup ?_
    refine pda_c ?_ pda_nil
    refine pd_xf ?_ (fun C hC => (nomatch hC))
    exact (pd_var 0)
    refine pds_cons ?_ ?_
    refine pds_if ?_ ?_ pds_nil
    refine pdt_cmp od_in ?_ ?_ (by rfl)
    refine pd_xf ?_ (by intro C hC; simp only [List.mem_cons, List.not_mem_nil, or_false] at hC; subst hC; exact ⟨T.xf_InvalidRatio, T.nx_InvalidRatio_code⟩)
    exact (pd_var 0)
    refine pd_lst ?_
    refine pda_str ?_
    refine pda_str ?_
    exact (pda_str pda_nil)
    refine pds_one ?_
    refine pds_ret ?_
    refine pd_tup ?_
    refine pda_c ?_ pda_nil
    refine pd_xf ?_ (fun C hC => (nomatch hC))
    exact (pd_var 0)
    refine pds_cons ?_ ?_
    refine pds_if ?_ ?_ pds_nil
    refine pdt_cmp od_in ?_ ?_ (by rfl)
    refine pd_xf ?_ (by intro C hC; simp only [List.mem_cons, List.not_mem_nil, or_false] at hC; subst hC; exact ⟨T.xf_InvalidRatio, T.nx_InvalidRatio_code⟩)
    exact (pd_var 0)
    refine pd_lst ?_
    refine pda_str ?_
    exact (pda_str pda_nil)
    refine pds_one ?_
    refine pds_ret ?_
    refine pd_if ?_ ?_ ?_
    refine pdt_cmp (od_eq hr.units) ?_ pd_str
    refine pd_xf ?_ (by intro C hC; simp only [List.mem_cons, List.not_mem_nil, or_false] at hC; subst hC; exact ⟨T.xf_InvalidRatio, T.nx_InvalidRatio_code⟩)
    exact (pd_var 0)
    refine pd_tup ?_
    refine pda_c ?_ pda_nil
    refine pd_xf ?_ (fun C hC => (nomatch hC))
    exact (pd_var 0)
    refine pd_tup ?_
    refine pda_c ?_ pda_nil
    refine pd_xf ?_ (fun C hC => (nomatch hC))
    exact (pd_var 0)
    refine pds_cons ?_ ?_
    refine pds_if ?_ ?_ pds_nil
    refine pdt_cmp od_in ?_ ?_ (by rfl)
    refine pd_xf ?_ (by intro C hC; simp only [List.mem_cons, List.not_mem_nil, or_false] at hC; subst hC; exact ⟨T.xf_InvalidRatio, T.nx_InvalidRatio_code⟩)
    exact (pd_var 0)
    refine pd_lst ?_
    refine pda_str ?_
    exact (pda_str pda_nil)
    refine pds_one ?_
    refine pds_ret ?_
    refine pd_if ?_ ?_ ?_
    refine pdt_cmp (od_eq hr.units) ?_ pd_str
    refine pd_xf ?_ (by intro C hC; simp only [List.mem_cons, List.not_mem_nil, or_false] at hC; subst hC; exact ⟨T.xf_InvalidRatio, T.nx_InvalidRatio_code⟩)
    exact (pd_var 0)
    refine pd_tup ?_
    refine pda_c ?_ pda_nil
    refine pd_xf ?_ (fun C hC => (nomatch hC))
    exact (pd_var 0)
    refine pd_tup ?_
    refine pda_c ?_ pda_nil
    refine pd_xf ?_ (fun C hC => (nomatch hC))
    exact (pd_var 0)
    refine pds_cons ?_ ?_
    refine pds_if ?_ ?_ pds_nil
    refine pdt_cmp od_in ?_ ?_ (by rfl)
    refine pd_xf ?_ (by intro C hC; simp only [List.mem_cons, List.not_mem_nil, or_false] at hC; subst hC; exact ⟨T.xf_InvalidRatio, T.nx_InvalidRatio_code⟩)
    exact (pd_var 0)
    refine pd_lst ?_
    refine pda_str ?_
    exact (pda_str pda_nil)
    refine pds_one ?_
    refine pds_ret ?_
    refine pd_if ?_ ?_ ?_
    refine pdt_cmp (od_eq hr.units) ?_ pd_str
    refine pd_xf ?_ (by intro C hC; simp only [List.mem_cons, List.not_mem_nil, or_false] at hC; subst hC; exact ⟨T.xf_InvalidRatio, T.nx_InvalidRatio_code⟩)
    exact (pd_var 0)
    refine pd_tup ?_
    refine pda_c ?_ pda_nil
    refine pd_xf ?_ (fun C hC => (nomatch hC))
    exact (pd_var 0)
    refine pd_tup ?_
    refine pda_c ?_ ?_
    refine pd_xf ?_ (fun C hC => (nomatch hC))
    exact (pd_var 0)
    refine pda_c ?_ pda_nil
    refine pd_xf ?_ (fun C hC => (nomatch hC))
    exact (pd_var 0)
    refine pds_one ?_
    refine pds_ret ?_
    refine pd_if ?_ ?_ ?_
    refine pdt_cmp (od_eq hr.units) ?_ pd_str
    refine pd_xf ?_ (by intro C hC; simp only [List.mem_cons, List.not_mem_nil, or_false] at hC; subst hC; exact ⟨T.xf_InvalidRatio, T.nx_InvalidRatio_code⟩)
    exact (pd_var 0)
    exact (pd_tup pda_nil)
    refine pd_tup ?_
    refine pda_c ?_ pda_nil
    refine pd_xf ?_ (by intro C hC; simp only [List.mem_cons, List.not_mem_nil, or_false] at hC; subst hC; exact ⟨T.xf_InvalidRatio, T.nx_InvalidRatio_given⟩)
    exact (pd_var 0))

theorem fq_w_field_1 (T : Txt P K mg base c) : FQ P w K mg base 2 "_law_field" (padF 1 [] (F_w_field c)) := by
  obtain ⟨f, fd, hm, FD⟩ := T.fn_w_field
  exact ⟨f, fd, _, _, _, hm, FD.kp, ok_w_field T FD, (Bd.nil (FD.bindsN (fun _ _ _ _ _ _ us hl => match us, hl with | [_], _ => rfl))), rfl⟩

theorem ok_w_try (T : Txt P K mg base c) {f : Addr} {fd : FuncData} (FD : FunD K "_law_try" "_law_try" (defArgs s_w_try) (defBody s_w_try) (defScope s_w_try) [] [] f fd) : FnD P w K mg base 8 f fd ["_law_ask"] (F_w_try c) := fnD_of (N := ["_law_ask", "_law_e"]) FD sc_w_try (fun cdv A outer s H E hr => by
    refine pds_one ?_
    refine pds_tryAs (i := 1) rfl rfl sc_w_try.nd rfl rfl rfl (test_three T.gc_CycleError T.gc_Missing T.gc_NothingLeft (by intro C hC; simp only [List.mem_cons, List.not_mem_nil, or_false] at hC; subst hC; exact T.xm_CycleError_Missing_NothingLeft_InvalidRatio)) ?_ ?_
    intro _ _
    refine pds_one ?_
    refine pds_ret ?_
    refine pd_tup ?_
    refine pda_str ?_
    refine pda_c ?_ pda_nil
    exact (pd_ask0 (lv := 7) (i := 0) (lto_LT0 T) (hr.mono (by decide)))
    intro _ _
    refine pds_one ?_
    refine pds_ret ?_
    refine pd_tup ?_
    refine pda_c ?_ ?_
    refine pd_xf ?_ (by intro C hC; simp only [List.mem_cons, List.not_mem_nil, or_false] at hC; subst hC; exact ⟨T.xf_InvalidRatio, T.nx_InvalidRatio_code⟩)
    exact (pd_var 1)
    refine pda_c ?_ pda_nil
    refine pd_funQ (fq_w_field_1 T) (roomH_mark (hr.mono (by decide))) ?_
    refine pda_c ?_ pda_nil
    exact (pd_var 1))

theorem ft_w_try_1 (T : Txt P K mg base c) : FT P w K mg base 8 "_law_try" (padF 1 [] (F_w_try c)) := by
  obtain ⟨f, fd, hm, FD⟩ := T.fn_w_try
  exact ⟨f, fd, _, _, _, hm, FD.kp, ok_w_try T FD, (Bd.nil (FD.bindsN (fun _ _ _ _ _ _ us hl => match us, hl with | [_], _ => rfl))), rfl⟩

theorem ok_w_over (T : Txt P K mg base c) {f : Addr} {fd : FuncData} (FD : FunD K "_law_over" "_law_over" (defArgs s_w_over) (defBody s_w_over) (defScope s_w_over) [] [] f fd) : FnD P w K mg base 3 f fd ["_law_p", "_law_q"] (F_w_over c) := fnD_of (N := ["_law_p", "_law_q"]) FD sc_w_over (fun cdv A outer s H E hr => by
    refine pds_one ?_
    refine pds_ret ?_
    refine pd_fun (ft_w_frac_2 T) (hr.mono (by decide)) ?_
    refine pda_c ?_ ?_
    refine pd_op od_mul ?_ ?_
    refine pd_ix ?_ pd_int
    exact (pd_var 0)
    refine pd_ix ?_ pd_int
    exact (pd_var 1)
    refine pda_c ?_ pda_nil
    refine pd_op od_mul ?_ ?_
    refine pd_ix ?_ pd_int
    exact (pd_var 0)
    refine pd_ix ?_ pd_int
    exact (pd_var 1))

theorem ft_w_over_2 (T : Txt P K mg base c) : FT P w K mg base 3 "_law_over" (padF 2 [] (F_w_over c)) := by
  obtain ⟨f, fd, hm, FD⟩ := T.fn_w_over
  exact ⟨f, fd, _, _, _, hm, FD.kp, ok_w_over T FD, (Bd.nil (FD.bindsN (fun _ _ _ _ _ _ us hl => match us, hl with | [_, _], _ => rfl))), rfl⟩

theorem ok_RatioD_eqD (T : Txt P K mg base c) {f : Addr} {fd : FuncData} (FD : FunD K "__eq__" "Ratio.__eq__" (defArgs s_RatioD_eqD) (defBody s_RatioD_eqD) (defScope s_RatioD_eqD) [] [] f fd) : FnD P w K mg base 3 f fd ["self", "other"] (F_RatioD_eqD c) := fnD_of (N := ["self", "other"]) FD sc_RatioD_eqD (fun cdv A outer s H E hr => by
    refine pds_one ?_
    refine pds_ret ?_
    refine pd_and ?_ ?_
    refine pd_isi ?_ (ClsV.own _) (pd_glob (RepA.val _) T.gc_Ratio rfl) T.ans_Ratio__Ratio T.b_isinstance
    exact (pd_var 1)
    refine pd_and ?_ ?_
    refine pd_cmp (od_eq hr.units) ?_ ?_
    refine pd_fld ?_ (by intro r hr; simp only [List.mem_cons, List.not_mem_nil, or_false] at hr; subst hr; exact T.fl_Ratio_own_top)
    exact (pd_var 0)
    refine pd_prop (k := 1) ?_ (by intro r hr; simp only [List.mem_cons, List.not_mem_nil, or_false] at hr; subst hr; exact (po_Ratio_Ratio_top T (by decide))) (hr.mono (by decide))
    exact (pd_var 1)
    refine pd_one ?_
    refine pd_cmp (od_eq hr.units) ?_ ?_
    refine pd_fld ?_ (by intro r hr; simp only [List.mem_cons, List.not_mem_nil, or_false] at hr; subst hr; exact T.fl_Ratio_own_bottom)
    exact (pd_var 0)
    refine pd_prop (k := 1) ?_ (by intro r hr; simp only [List.mem_cons, List.not_mem_nil, or_false] at hr; subst hr; exact (po_Ratio_Ratio_bottom T (by decide))) (hr.mono (by decide))
    exact (pd_var 1))

theorem mt_Ratio_RatioD_eqD_2 (T : Txt P K mg base c) : MT P w K mg base 3 "__eq__" c.cRatio (padF 2 [] (F_RatioD_eqD c)) := by
  obtain ⟨f, fd, h0, hf, FD⟩ := T.me_RatioD_eqD
  exact ⟨f, fd, _, _, _, h0, hf, FD.kp, ok_RatioD_eqD T FD, (Bd.nil (FD.bindsN (fun _ _ _ _ _ _ us hl => match us, hl with | [_, _], _ => rfl))), rfl⟩

theorem eqo_0 (T : Txt P K mg base c) {k : Nat} (hk : 3 ≤ k) : EqOk P w K mg base k (c.kRatio, padF 2 [] (F_RatioD_eqD c), [(.prim "tuple")]) := ⟨(mt_Ratio_RatioD_eqD_2 T).mono hk, by
  intro t ht; simp only [List.mem_cons, List.not_mem_nil, or_false] at ht; subst ht; exact T.nf_Ratio_primtuple⟩

theorem eqo_1 (T : Txt P K mg base c) {k : Nat} (hk : 3 ≤ k) : EqOk P w K mg base k (c.kRatio, padF 2 [] (F_RatioD_eqD c), [(.own c.cRatio), (.prim "tuple")]) := ⟨(mt_Ratio_RatioD_eqD_2 T).mono hk, by
  intro t ht; simp only [List.mem_cons, List.not_mem_nil, or_false] at ht; rcases ht with rfl | rfl <;> first | exact T.nf_Ratio_ownccRatio | exact T.nf_Ratio_primtuple⟩

theorem eqo_2 (T : Txt P K mg base c) {k : Nat} (hk : 3 ≤ k) : EqOk P w K mg base k (c.kRatio, padF 2 [] (F_RatioD_eqD c), [(.own c.cRatio)]) := ⟨(mt_Ratio_RatioD_eqD_2 T).mono hk, by
  intro t ht; simp only [List.mem_cons, List.not_mem_nil, or_false] at ht; subst ht; exact T.nf_Ratio_ownccRatio⟩

theorem mo_Ratio_RatioD_eqD_2 (T : Txt P K mg base c) {k : Nat} (hk : 3 ≤ k) : MethOk P w K mg base k "__eq__" c.kRatio (padF 2 [] (F_RatioD_eqD c)) := ⟨T.cl_Ratio, (mt_Ratio_RatioD_eqD_2 T).mono hk, (show ("__eq__" : Str) ∉ nsRatio from by decide +kernel)⟩

theorem ok_law (T : Txt P K mg base c) {f : Addr} {fd : FuncData} (HM : MkOk K mg base (("law" : Str) ++ (".<locals>." : Str) ++ ("<lambda>" : Str)) f) (FD : FunD K "law" "law" (defArgs s_law) (defBody s_law) (defScope s_law) [] [] f fd) : FnD P w K mg base 11 f fd ["_law_script"] (F_law c) := fnDG_of (N := ["_law_script", "_law_bag", "_law_turn", "_law_p", "_law_q", "_law_one_here", "_law_other_z", "_law_found", "_law_code", "_law_told", "_law_third"]) (t := D_law c) FD sc_law HM.code (fun A outer s H E hr => by
    refine pds_cons ?_ ?_
    refine pds_set (i := 1) ?_ sc_law.nd
    refine pd_fun (ft_w_begin_1 T) (hr.mono (by decide)) ?_
    refine pda_c ?_ pda_nil
    exact (pd_var 0)
    refine pds_cons ?_ ?_
    refine pds_for ?_ (pdg_name 2 sc_law.nd) ?_ (by rfl) (passes_of rfl)
    refine pdi_range1 T.b_range ?_
    exact (pda_int pda_nil)
    refine pds_cons ?_ ?_
    refine pds_par (i := 3) (j := 4) ?_ (by rfl) sc_law.nd
    refine pda_c ?_ ?_
    refine pd_fun (ft_w_any_frac_1 T) (hr.mono (by decide)) ?_
    refine pda_c ?_ pda_nil
    exact (pd_var 1)
    refine pda_c ?_ pda_nil
    refine pd_fun (ft_w_any_frac_1 T) (hr.mono (by decide)) ?_
    refine pda_c ?_ pda_nil
    exact (pd_var 1)
    refine pds_cons ?_ ?_
    refine pds_set (i := 4) ?_ sc_law.nd
    refine pd_if ?_ ?_ ?_
    refine pdt_cmp (od_eq hr.units) ?_ pd_int
    refine pd_fun (ft_w_take_2 T) (hr.mono (by decide)) ?_
    refine pda_c ?_ ?_
    exact (pd_var 1)
    exact (pda_int pda_nil)
    exact (pd_var 3)
    exact (pd_var 4)
    refine pds_cons ?_ ?_
    refine pds_asg ?_ (pdg_tup (n := 2) (by rfl) (pdgs_cons (pdg_name 5 sc_law.nd) (pdgs_cons (pdg_name 6 sc_law.nd) pdgs_nil)))
    refine pd_tup ?_
    refine pda_c ?_ ?_
    refine pd_fun (ft_w_made_1 T) (hr.mono (by decide)) ?_
    refine pda_c ?_ pda_nil
    exact (pd_var 3)
    refine pda_c ?_ pda_nil
    refine pd_fun (ft_w_made_1 T) (hr.mono (by decide)) ?_
    refine pda_c ?_ pda_nil
    exact (pd_var 4)
    refine pds_cons ?_ ?_
    refine pds_set (i := 7) ?_ sc_law.nd
    refine pd_lst ?_
    refine pda_c ?_ ?_
    refine pd_fun (ft_w_parts_1 T) (hr.mono (by decide)) ?_
    refine pda_c ?_ pda_nil
    refine pd_op (od_own (mt_Ratio_RatioD_addD_2 T) T.sf_Ratio (hr.mono (by decide))) ?_ ?_
    exact (pd_var 5)
    exact (pd_var 6)
    refine pda_c ?_ ?_
    refine pd_fun (ft_w_parts_1 T) (hr.mono (by decide)) ?_
    refine pda_c ?_ pda_nil
    refine pd_op (od_own (mt_Ratio_RatioD_subD_2 T) T.sf_Ratio (hr.mono (by decide))) ?_ ?_
    exact (pd_var 5)
    exact (pd_var 6)
    refine pda_c ?_ pda_nil
    refine pd_fun (ft_w_parts_1 T) (hr.mono (by decide)) ?_
    refine pda_c ?_ pda_nil
    refine pd_op (od_own (mt_Ratio_RatioD_mulD_2 T) T.sf_Ratio (hr.mono (by decide))) ?_ ?_
    exact (pd_var 5)
    exact (pd_var 6)
    refine pds_cons ?_ ?_
    refine pds_if ?_ ?_ pds_nil
    refine pdt_not ?_
    refine pdt_val ?_
    refine pd_fun (ft_w_like_2 T 8) (hr.mono (by decide)) ?_
    refine pda_c ?_ ?_
    exact (pd_var 7)
    refine pda_c ?_ pda_nil
    refine pd_lst ?_
    refine pda_c ?_ ?_
    refine pd_fun (ft_w_plus_2 T) (hr.mono (by decide)) ?_
    refine pda_c ?_ ?_
    exact (pd_var 3)
    refine pda_c ?_ pda_nil
    exact (pd_var 4)
    refine pda_c ?_ ?_
    refine pd_fun (ft_w_minus_2 T) (hr.mono (by decide)) ?_
    refine pda_c ?_ ?_
    exact (pd_var 3)
    refine pda_c ?_ pda_nil
    exact (pd_var 4)
    refine pda_c ?_ pda_nil
    refine pd_fun (ft_w_times_2 T) (hr.mono (by decide)) ?_
    refine pda_c ?_ ?_
    exact (pd_var 3)
    refine pda_c ?_ pda_nil
    exact (pd_var 4)
    refine pds_one ?_
    exact (pds_ret pd_bl)
    refine pds_cons ?_ ?_
    refine pds_if ?_ ?_ pds_nil
    refine pdt_not ?_
    refine pdt_val ?_
    refine pd_fun (ft_w_like_2 T 8) (hr.mono (by decide)) ?_
    refine pda_c ?_ ?_
    refine pd_lst ?_
    refine pda_c ?_ ?_
    refine pd_meth (k := 3) ?_ (by intro r hr; simp only [List.mem_cons, List.not_mem_nil, or_false] at hr; subst hr; exact (mo_Ratio_Ratio_is_below_2 T (by decide))) (hr.mono (by decide)) ?_
    exact (pd_var 5)
    refine pda_c ?_ pda_nil
    exact (pd_var 6)
    refine pda_c ?_ pda_nil
    refine pd_methK0 (k := 3) (ks := ["other"]) ?_ (by intro r hr; simp only [List.mem_cons, List.not_mem_nil, or_false] at hr; subst hr; exact (mtk_Ratio_Ratio_is_below_0_other T (by decide))) (hr.mono (by decide)) ?_
    exact (pd_var 6)
    refine pdk_cons ?_ pdk_nil
    exact (pd_var 5)
    refine pda_c ?_ pda_nil
    refine pd_lst ?_
    refine pda_c ?_ ?_
    refine pd_fun (ft_w_less_2 T) (hr.mono (by decide)) ?_
    refine pda_c ?_ ?_
    exact (pd_var 3)
    refine pda_c ?_ pda_nil
    exact (pd_var 4)
    refine pda_c ?_ pda_nil
    refine pd_fun (ft_w_less_2 T) (hr.mono (by decide)) ?_
    refine pda_c ?_ ?_
    exact (pd_var 4)
    refine pda_c ?_ pda_nil
    exact (pd_var 3)
    refine pds_one ?_
    exact (pds_ret pd_bl)
    refine pds_cons ?_ ?_
    refine pds_asg ?_ (pdg_tup (n := 2) (by rfl) (pdgs_cons (pdg_name 8 sc_law.nd) (pdgs_cons (pdg_name 9 sc_law.nd) pdgs_nil)))
    refine pd_funL (rows := lr_law) (ft_w_try_1 T) (hr.mono (by decide)) lro_law ?_
    refine pda_c ?_ pda_nil
    exact (pd_lam0 (k := 0) rfl HM.tb HM.mem HM.un rfl lf_0)
    refine pds_cons ?_ ?_
    refine pds_if ?_ ?_ pds_nil
    refine PDW.pt ?_
    refine pdw_and ?_ ?_
    refine pdt_cmp (od_ne hr.units) ?_ pd_int
    refine pd_ix ?_ pd_int
    exact (pd_var 4)
    refine pdw_and1 ?_
    refine PDW.pt ?_
    refine pdw_or ?_ ?_
    refine pdt_cmp (od_ne hr.units) ?_ pd_str
    exact (pd_var 8)
    refine pdw_or1 ?_
    refine pdt_not ?_
    refine pdt_val ?_
    refine pd_fun (ft_w_like_2 T 8) (hr.mono (by decide)) ?_
    refine pda_c ?_ ?_
    refine pd_fun (ft_w_parts_1 T) (hr.mono (by decide)) ?_
    refine pda_c ?_ pda_nil
    exact (pd_var 9)
    refine pda_c ?_ pda_nil
    refine pd_fun (ft_w_over_2 T) (hr.mono (by decide)) ?_
    refine pda_c ?_ ?_
    exact (pd_var 3)
    refine pda_c ?_ pda_nil
    exact (pd_var 4)
    refine pds_one ?_
    exact (pds_ret pd_bl)
    refine pds_cons ?_ ?_
    refine pds_if ?_ ?_ pds_nil
    refine PDW.pt ?_
    refine pdw_and ?_ ?_
    refine pdt_cmp (od_eq hr.units) ?_ pd_int
    refine pd_ix ?_ pd_int
    exact (pd_var 4)
    refine pdw_and1 ?_
    refine PDW.pt ?_
    refine pdw_or ?_ ?_
    refine pdt_cmp (od_ne hr.units) ?_ pd_str
    exact (pd_var 8)
    refine pdw_or1 ?_
    refine pdt_cmp (od_or (od_ownNe (k := 3) (by intro r hr; simp only [List.mem_cons, List.not_mem_nil, or_false] at hr; subst hr; exact (eqo_0 T (by decide))) (by intro r hr; simp only [List.mem_cons, List.not_mem_nil, or_false] at hr; subst hr; exact T.ne_Ratio) (hr.mono (by decide))) (od_neX (k := 3) (by intro r hr; simp only [List.mem_cons, List.not_mem_nil, or_false] at hr; subst hr; exact (eqo_1 T (by decide))) 5 (hr.mono (by decide)))) ?_ ?_
    exact (pd_var 9)
    refine pd_tup ?_
    refine pda_c ?_ pda_nil
    exact (pd_var 6)
    refine pds_one ?_
    exact (pds_ret pd_bl)
    refine pds_cons ?_ ?_
    refine pds_if ?_ ?_ pds_nil
    refine pdt_not ?_
    refine pdt_val ?_
    refine pd_fun (ft_w_like_2 T 8) (hr.mono (by decide)) ?_
    refine pda_c ?_ ?_
    refine pd_lst ?_
    refine pda_c ?_ ?_
    refine pd_fun (ft_w_parts_1 T) (hr.mono (by decide)) ?_
    refine pda_c ?_ pda_nil
    exact (pd_var 5)
    refine pda_c ?_ pda_nil
    refine pd_fun (ft_w_parts_1 T) (hr.mono (by decide)) ?_
    refine pda_c ?_ pda_nil
    exact (pd_var 6)
    refine pda_c ?_ pda_nil
    refine pd_lst ?_
    refine pda_c ?_ ?_
    exact (pd_var 3)
    refine pda_c ?_ pda_nil
    exact (pd_var 4)
    refine pds_one ?_
    exact (pds_ret pd_bl)
    refine pds_cons ?_ ?_
    refine pds_set (i := 10) ?_ sc_law.nd
    refine pd_fun (ft_w_made_1 T) (hr.mono (by decide)) ?_
    refine pda_c ?_ pda_nil
    refine pd_fun (ft_w_any_frac_1 T) (hr.mono (by decide)) ?_
    refine pda_c ?_ pda_nil
    exact (pd_var 1)
    refine pds_cons ?_ ?_
    refine pds_if ?_ ?_ pds_nil
    refine pdt_cmp (od_ownNe (k := 3) (by intro r hr; simp only [List.mem_cons, List.not_mem_nil, or_false] at hr; subst hr; exact (eqo_2 T (by decide))) (by intro r hr; simp only [List.mem_cons, List.not_mem_nil, or_false] at hr; subst hr; exact T.ne_Ratio) (hr.mono (by decide))) ?_ ?_
    refine pd_op (od_own (mt_Ratio_RatioD_mulD_2 T) T.sf_Ratio (hr.mono (by decide))) ?_ ?_
    exact (pd_var 5)
    refine pd_op (od_own (mt_Ratio_RatioD_addD_2 T) T.sf_Ratio (hr.mono (by decide))) ?_ ?_
    exact (pd_var 6)
    exact (pd_var 10)
    refine pd_op (od_own (mt_Ratio_RatioD_addD_2 T) T.sf_Ratio (hr.mono (by decide))) ?_ ?_
    refine pd_op (od_own (mt_Ratio_RatioD_mulD_2 T) T.sf_Ratio (hr.mono (by decide))) ?_ ?_
    exact (pd_var 5)
    exact (pd_var 6)
    refine pd_op (od_own (mt_Ratio_RatioD_mulD_2 T) T.sf_Ratio (hr.mono (by decide))) ?_ ?_
    exact (pd_var 5)
    exact (pd_var 10)
    refine pds_one ?_
    exact (pds_ret pd_bl)
    refine pds_one ?_
    refine pds_if ?_ ?_ pds_nil
    refine pdt_cmp (od_ownNe (k := 3) (by intro r hr; simp only [List.mem_cons, List.not_mem_nil, or_false] at hr; subst hr; exact (eqo_2 T (by decide))) (by intro r hr; simp only [List.mem_cons, List.not_mem_nil, or_false] at hr; subst hr; exact T.ne_Ratio) (hr.mono (by decide))) ?_ ?_
    refine pd_op (od_own (mt_Ratio_RatioD_subD_2 T) T.sf_Ratio (hr.mono (by decide))) ?_ ?_
    exact (pd_var 5)
    exact (pd_var 5)
    refine pd_make (k := 4) (kt_Ratio_1 T) (hr.mono (by decide)) ?_
    exact (pda_int pda_nil)
    refine pds_one ?_
    exact (pds_ret pd_bl)
    refine pds_one ?_
    refine pds_ret ?_
    refine pd_cmp (od_eq hr.units) ?_ ?_
    refine pd_fun (ft_w_parts_1 T) (hr.mono (by decide)) ?_
    refine pda_c ?_ pda_nil
    refine pd_methK0 (k := 6) (ks := ["other"]) ?_ (by intro r hr; simp only [List.mem_cons, List.not_mem_nil, or_false] at hr; subst hr; exact (mtk_Ratio_Ratio_over_0_other T (by decide))) (hr.mono (by decide)) ?_
    refine pd_make (k := 4) (kt_Ratio_2 T) (hr.mono (by decide)) ?_
    refine pda_int ?_
    exact (pda_int pda_nil)
    refine pdk_cons ?_ pdk_nil
    refine pd_make (k := 4) (kt_Ratio_2 T) (hr.mono (by decide)) ?_
    refine pda_c ?_ ?_
    exact (pd_negI pd_int)
    exact (pda_int pda_nil)
    refine pd_tup ?_
    refine pda_c ?_ ?_
    exact (pd_negI pd_int)
    exact (pda_int pda_nil))

end
end W

set_option maxHeartbeats 1000000
namespace W
open PySem PySem.Spec L2 DL
@[simp] theorem tru_bl (m : Mu) (b : Bool) : dTru m (.bl b) = some b := rfl
@[simp ↓] theorem dTrO_ap (rows : List (Kl × DFn)) (t : DE) (e : En) (m : Mu) : dTrO rows t e m = (t e m).bind fun d m => match dTru m d with
  | some b => .ok b m
  | none => match insOf m d with
    | some (C, ns, _) => match methAt rows C ns with
      | some G => (G [d] m).bind fun r m => match r with
        | .bl b => .ok b m
        | _ => .stuck
      | none => .stuck
    | none => .stuck := rfl
@[simp ↓] theorem dNotO_ap (rows : List (Kl × DFn)) (t : DE) (e : En) (m : Mu) : dNotO rows t e m = (dTrO rows t e m).bind fun b m => .ok (.bl !b) m := rfl
@[simp] theorem pick_nil (ds : List D) : pick [] ds = some [] := rfl
@[simp] theorem pick_cons (i : Nat) (r : List Nat) (ds : List D) : pick (i :: r) ds = match ds[i]? with
  | some d => match pick r ds with
    | some xs => some (d :: xs)
    | none => none
  | none => none := rfl
theorem log_lt {n k : Nat} (h : n < 2 ^ k) (hk : 0 < k) : n.log2 < k := by
  by_cases h0 : n = 0
  · subst h0; simpa using hk
  · exact (Nat.log2_lt h0).mpr h
theorem log_le {n : Nat} {k : Nat} (h : n ≤ 2 ^ k) : n.log2 ≤ k := by
  by_cases h0 : n = 0
  · subst h0; simp
  · have := (Nat.log2_lt h0 (k := k + 1)).mpr (by rw [Nat.pow_succ]; omega)
    omega
theorem mulOk_of {i j : Int} (h : i.natAbs.log2 + j.natAbs.log2 < 1000000) : mulOk i j = true := by
  unfold mulOk; simpa using h
theorem divOk_of {i j : Int} (h0 : j ≠ 0) (h : j.natAbs.log2 < 9000) : divOk i j = true := by
  unfold divOk; simp [h0, h]
theorem int_log {i : Int} {k : Nat} (h1 : -(2 ^ k : Nat) < i) (h2 : i < (2 ^ k : Nat)) (hk : 0 < k) : i.natAbs.log2 < k := log_lt (by omega) hk
theorem mulOk_lt {i j : Int} (h1 : -(2 ^ 100 : Nat) < i) (h2 : i < (2 ^ 100 : Nat)) (h3 : -(2 ^ 100 : Nat) < j) (h4 : j < (2 ^ 100 : Nat)) : mulOk i j = true :=
  mulOk_of (by have := int_log h1 h2 (by decide); have := int_log h3 h4 (by decide); omega)
/-! ### the bag -/
def bagO (cells : List Int) (i r x : Int) : Mo := .lst [.lst (cells.map .int), .int i, .int r, .int x]
structure BagO (o : Mo) : Prop where
  ex : ∃ (cells : List Int) (i r x : Int), o = bagO cells i r x ∧ 0 ≤ i ∧ 0 ≤ r ∧ 0 ≤ x ∧ x < 2 ^ 31
structure BagOk (m : Mu) : Prop where
  ex : ∃ o, m[0]? = some o ∧ BagO o
theorem belows_ints (n : Nat) : ∀ xs : List Int, belows n (xs.map .int) = true
  | [] => rfl
  | x :: xs => by simp [belows, below, belows_ints n xs]
theorem BagO.below {o : Mo} (h : BagO o) (n : Nat) : o.below n = true := by
  obtain ⟨cells, i, r, x, rfl, _⟩ := h.ex
  simp [bagO, Mo.below, belows, DL.below, belows_ints]
/-- the same but for the bag -/
structure Bgs (m m' : Mu) : Prop where
  ex : ∃ o, m' = m.set 0 o ∧ BagO o
theorem Bgs.len {m m' : Mu} (h : Bgs m m') : m'.length = m.length := by obtain ⟨o, rfl, _⟩ := h.ex; simp
theorem Bgs.trans {m m' m'' : Mu} (h : Bgs m m') (k : Bgs m' m'') : Bgs m m'' := by
  obtain ⟨o, rfl, _⟩ := h.ex
  obtain ⟨o', rfl, hb⟩ := k.ex
  exact ⟨o', by simp, hb⟩
theorem BagOk.set {m : Mu} (h : BagOk m) {o : Mo} (b : BagO o) : BagOk (m.set 0 o) := by
  obtain ⟨o', h1, _⟩ := h.ex
  refine ⟨o, ?_, b⟩
  cases m with
  | nil => simp at h1
  | cons a t => rfl
theorem Bgs.bag {m m' : Mu} (h : Bgs m m') (b : BagOk m) : BagOk m' := by
  obtain ⟨o, rfl, hb⟩ := h.ex
  exact b.set hb
theorem BagOk.rfl' {m : Mu} (b : BagOk m) : Bgs m m := by
  obtain ⟨o, h1, hb⟩ := b.ex
  refine ⟨o, ?_, hb⟩
  cases m with
  | nil => simp at h1
  | cons a t => simp at h1; subst h1; rfl
theorem Bgs.cl {m m' : Mu} (h : Bgs m m') (k : Cl m) : Cl m' := by
  obtain ⟨o, rfl, hb⟩ := h.ex
  intro q hq
  rw [List.length_set]
  rcases List.mem_or_eq_of_mem_set hq with z | z
  · exact k q z
  · subst z; exact hb.below _
theorem Bgs.get {m m' : Mu} (h : Bgs m m') (k : Nat) : m'[k + 1]? = m[k + 1]? := by
  obtain ⟨o, rfl, _⟩ := h.ex
  simp
theorem bagO_mk {cells : List Int} {i r x : Int} (h1 : 0 ≤ i) (h2 : 0 ≤ r) (h3 : 0 ≤ x) (h4 : x < 2 ^ 31) : BagO (bagO cells i r x) := ⟨cells, i, r, x, rfl, h1, h2, h3, h4⟩
theorem mod_b {a n : Int} (h : 0 < n) : 0 ≤ a % n ∧ a % n < n := ⟨Int.emod_nonneg _ (by omega), Int.emod_lt_of_pos _ h⟩
theorem mulOk_m {a n k : Int} (h : 0 < n) (h2 : n < 2 ^ 100) (h3 : 0 ≤ k) (h4 : k < 2 ^ 100) : mulOk (a % n) k = true := by
  have := mod_b (a := a) h
  exact mulOk_lt (by omega) (by omega) (by omega) (by omega)
theorem fdiv_nn {a n : Int} (h : 0 ≤ a) (hn : 0 < n) : 0 ≤ a.fdiv n := by
  rw [Int.fdiv_eq_ediv_of_nonneg _ (by omega)]
  exact Int.ediv_nonneg h (by omega)
theorem take_ex (c : Cs) {m : Mu} (hb : BagOk m) {n : Int} (hn : 0 < n) (hl : n < 2 ^ 200) :
    ∃ v o, F_w_take c [.loc 0, .int n] m = .ok (.int v) (m.set 0 o) ∧ 0 ≤ v ∧ v < n ∧ BagO o := by
  obtain ⟨o, h1, hb⟩ := hb.ex
  obtain ⟨cells, i, r, x, rfl, hi, hr, hx, hx2⟩ := hb.ex
  cases m with
  | nil => simp at h1
  | cons a t =>
  simp at h1
  subst h1
  have hd : ∀ r, divOk r n = true := fun r => divOk_of (by omega) (by have := int_log (i := n) (k := 200) (by omega) (by omega) (by decide); omega)
  have hd53 : ∀ r, divOk r 53 = true := fun r => divOk_of (by omega) (by decide)
  have hm7 : ∀ z : Int, mulOk (z % 7907) 179 = true := fun z => mulOk_m (by omega) (by omega) (by omega) (by omega)
  have hm1 : ∀ x : Int, 0 ≤ x → x < 2 ^ 31 → mulOk x 36919 = true := fun x h h2 => mulOk_lt (by omega) (by omega) (by omega) (by omega)
  have hm2 : ∀ x : Int, 0 ≤ x → x < 2 ^ 31 → mulOk x x = true := fun x h h2 => mulOk_lt (by omega) (by omega) (by omega) (by omega)
  have hm3 : ∀ x : Int, 0 ≤ x → x < 2 ^ 31 → mulOk x 29423 = true := fun x h h2 => mulOk_lt (by omega) (by omega) (by omega) (by omega)
  have hm4 : ∀ z : Int, mulOk (z % 2147483563) 7919 = true := fun z => mulOk_m (by omega) (by omega) (by omega) (by omega)
  have m7 : ∀ z : Int, 0 ≤ z % 2147483647 ∧ z % 2147483647 < 2 ^ 31 := fun z => by have := mod_b (a := z) (n := 2147483647) (by decide); omega
  have m8 : ∀ z : Int, 0 ≤ z % 2147483629 ∧ z % 2147483629 < 2 ^ 31 := fun z => by have := mod_b (a := z) (n := 2147483629) (by decide); omega
  have mn : ∀ z : Int, 0 ≤ z % n ∧ z % n < n := fun z => mod_b hn
  by_cases hc : r = 0 ∧ i < cells.length
  · obtain ⟨rfl, hi2⟩ := hc
    obtain ⟨j, rfl⟩ := Int.eq_ofNat_of_zero_le hi
    have hj : j < cells.length := by omega
    generalize hw : (if cells[j] < 0 then -cells[j] else cells[j]) = w
    have hw0 : 0 ≤ w := by subst hw; split <;> omega
    by_cases h18 : 1000000000000000000 ≤ w
    · have hp : 0 < w := by omega
      refine ⟨w % n, bagO cells (↑j + 1) (w.fdiv n) x, ?_, (mn w).1, (mn w).2, bagO_mk (by omega) (fdiv_nn hw0 hn) hx hx2⟩
      simp [F_w_take, env0, bagO, hj, hw, h18, hp, hd, hn]
    · generalize hR : F_w_take c _ _ = R
      simp [F_w_take, env0, bagO, hj, hw, h18, hm1 x hx hx2, hm4, hm2 _ (m8 _).1 (m8 _).2, hm3 _ (m8 _).1 (m8 _).2, hd53, hm7, hn] at hR
      subst hR
      exact ⟨_, bagO cells (↑j + 1) 0 _, rfl, (mn _).1, (mn _).2, bagO_mk (by omega) (by omega) (m7 _).1 (m7 _).2⟩
  · by_cases hr0 : 0 < r
    · refine ⟨r % n, bagO cells i (r.fdiv n) x, ?_, (mn _).1, (mn _).2, bagO_mk hi (fdiv_nn hr hn) hx hx2⟩
      have : ¬ r = 0 := by omega
      simp [F_w_take, env0, bagO, hr0, hd, hn, this]
    · have : r = 0 := by omega
      subst this
      have hi2 : ¬ i < cells.length := fun h => hc ⟨rfl, h⟩
      generalize hR : F_w_take c _ _ = R
      simp [F_w_take, env0, bagO, hi2, hm2 x hx hx2, hm3 x hx hx2, hd53, hm7, hn] at hR
      subst hR
      exact ⟨_, bagO cells i 0 _, rfl, (mn _).1, (mn _).2, bagO_mk hi (by omega) (m7 _).1 (m7 _).2⟩
theorem take_ok (c : Cs) {m : Mu} (hb : BagOk m) {n : Int} (hn : 0 < n) (hl : n < 2 ^ 200) :
    ∃ v m', F_w_take c [.loc 0, .int n] m = .ok (.int v) m' ∧ 0 ≤ v ∧ v < n ∧ Bgs m m' := by
  obtain ⟨v, o, h1, h2, h3, h4⟩ := take_ex c hb hn hl
  exact ⟨v, _, h1, h2, h3, ⟨o, rfl, h4⟩⟩
theorem one_ok (c : Cs) {m : Mu} (hb : BagOk m) {ds : List D} (h0 : ds ≠ []) (hl : ds.length < 1000000) :
    ∃ d m', F_w_one c [.loc 0, .lst ds] m = .ok d m' ∧ d ∈ ds ∧ Bgs m m' := by
  have hp : 0 < ds.length := List.length_pos_iff.mpr h0
  obtain ⟨v, m', e, h1, h2, h3⟩ := take_ok c hb (n := ds.length) (by omega) (by omega)
  obtain ⟨j, rfl⟩ := Int.eq_ofNat_of_zero_le h1
  have hj : j < ds.length := by omega
  refine ⟨ds[j], m', ?_, List.getElem_mem hj, h3⟩
  simp [F_w_one, env0, e, hj]
theorem gcd_step (a b : Nat) : Nat.gcd b (a % b) = Nat.gcd a b := by rw [Nat.gcd_comm b, ← Nat.gcd_rec, Nat.gcd_comm]
theorem divisor_while (c : Cs) (m : Mu) : ∀ (k a b : Nat), b < k → whileF (T_w_divisor_1 c) (B_w_divisor_1 c) k [some (.int a), some (.int b)] m = .nx [some (.int (Nat.gcd a b)), some (.int 0)] m
  | 0, a, b, h => by omega
  | k + 1, a, b, h => by
    unfold whileF
    by_cases hb : b = 0
    · subst hb; simp [T_w_divisor_1_ap]
    · have hb' : 0 < b := by omega
      have hm := Nat.mod_lt a hb'
      have ih := divisor_while c m k b (a % b) (by omega)
      rw [Int.natCast_emod, gcd_step] at ih
      simp [T_w_divisor_1_ap, B_w_divisor_1_ap, hb', ih]
theorem divisor_ok (c : Cs) (a b : Int) (ha : 0 ≤ a) (hb : 0 ≤ b) (m : Mu) : F_w_divisor c [.int a, .int b] m = .ok (.int (Int.gcd a b)) m := by
  obtain ⟨j, rfl⟩ := Int.eq_ofNat_of_zero_le ha
  obtain ⟨k, rfl⟩ := Int.eq_ofNat_of_zero_le hb
  have h := dWhile_eq (divisor_while c m (k + 1) j k (by omega)) (by simp)
  simp [F_w_divisor, env0, h, Int.gcd]
theorem common_while (c : Cs) (m : Mu) : ∀ (k a b : Nat), b < k → whileF (T_common_divisor_1 c) (B_common_divisor_1 c) k [some (.int a), some (.int b)] m = .nx [some (.int (Nat.gcd a b)), some (.int 0)] m
  | 0, a, b, h => by omega
  | k + 1, a, b, h => by
    unfold whileF
    by_cases hb : b = 0
    · subst hb; simp [T_common_divisor_1_ap]
    · have hb' : 0 < b := by omega
      have hm := Nat.mod_lt a hb'
      have ih := common_while c m k b (a % b) (by omega)
      rw [Int.natCast_emod, gcd_step] at ih
      simp [T_common_divisor_1_ap, B_common_divisor_1_ap, hb', ih, hb]
theorem common_ok (c : Cs) (a b : Int) (ha : 0 ≤ a) (hb : 0 ≤ b) (m : Mu) : F_common_divisor c [.int a, .int b] m = .ok (.int (Int.gcd a b)) m := by
  obtain ⟨j, rfl⟩ := Int.eq_ofNat_of_zero_le ha
  obtain ⟨k, rfl⟩ := Int.eq_ofNat_of_zero_le hb
  have h := dWhile_eq (common_while c m (k + 1) j k (by omega)) (by simp)
  simp [F_common_divisor, env0, h, Int.gcd]
/-- a fraction's own form -/
def fr (q : Rat) : D := .tup [.int q.num, .int q.den]
theorem abs_gcd (a b : Int) : Int.gcd (if a < 0 then -a else a) (if b < 0 then -b else b) = Int.gcd a b := by
  unfold Int.gcd
  congr 1 <;> split <;> omega
theorem abs_nn (a : Int) : 0 ≤ (if a < 0 then -a else a) := by split <;> omega
/-- the divisor with the lower part's sign -/
def sg (a b : Int) : Int := if 0 < b then (Int.gcd a b : Int) else -(Int.gcd a b : Int)
theorem sg_ne (a : Int) {b : Int} (hb : b ≠ 0) : sg a b ≠ 0 := by
  unfold sg
  have : Int.gcd a b ≠ 0 := by rw [Ne, Int.gcd_eq_zero_iff]; omega
  split <;> omega
theorem sg_num (a : Int) {b : Int} (hb : b ≠ 0) : a.fdiv (sg a b) = (Rat.divInt a b).num := by
  rw [Rat.num_divInt, Int.gcd_comm b a]
  unfold sg
  have hg : (Int.gcd a b : Int) ∣ a := Int.gcd_dvd_left ..
  obtain ⟨k, hk⟩ := hg
  have h0 : (Int.gcd a b : Int) ≠ 0 := by have : Int.gcd a b ≠ 0 := by rw [Ne, Int.gcd_eq_zero_iff]; omega
                                          omega
  generalize (Int.gcd a b : Int) = g at *
  subst hk
  by_cases h : 0 < b
  · rw [if_pos h, Int.sign_eq_one_of_pos h, Int.one_mul, Int.mul_fdiv_cancel_left _ h0, Int.mul_ediv_cancel_left _ h0]
  · rw [if_neg h, Int.sign_eq_neg_one_of_neg (by omega), Int.neg_one_mul, ← Int.mul_neg, Int.mul_ediv_cancel_left _ h0, ← Int.neg_mul_neg, Int.mul_fdiv_cancel_left _ (by omega)]
theorem sg_den (a : Int) {b : Int} (hb : b ≠ 0) : b.fdiv (sg a b) = (Rat.divInt a b).den := by
  rw [Rat.den_divInt, if_neg hb, Int.gcd_comm b a]
  unfold sg
  have hg : (Int.gcd a b : Int) ∣ b := Int.gcd_dvd_right ..
  have h0 : Int.gcd a b ≠ 0 := by rw [Ne, Int.gcd_eq_zero_iff]; omega
  generalize Int.gcd a b = g at *
  have h0' : (g : Int) ≠ 0 := by omega
  obtain ⟨k, hk⟩ := hg
  subst hk
  have e : ((g : Int) * k).natAbs = g * k.natAbs := by rw [Int.natAbs_mul]; simp
  rw [e, Nat.mul_div_cancel_left _ (by omega)]
  by_cases h : 0 < (g : Int) * k
  · rw [if_pos h, Int.mul_fdiv_cancel_left _ h0']
    have : 0 < k := Int.pos_of_mul_pos_right h (by omega)
    omega
  · rw [if_neg h, ← Int.neg_mul_neg, Int.mul_fdiv_cancel_left _ (by omega)]
    have : ¬ 0 < k := fun z => h (Int.mul_pos (by omega) z)
    omega
theorem gcd_log (a : Int) {b : Int} (hb : b ≠ 0) : (Int.gcd a b).log2 ≤ b.natAbs.log2 := by
  have h : Int.gcd a b ≤ b.natAbs := Nat.le_of_dvd (by omega) (Int.gcd_dvd_natAbs_right a b)
  have h0 : Int.gcd a b ≠ 0 := by rw [Ne, Int.gcd_eq_zero_iff]; omega
  exact (Nat.le_log2 (by omega)).mpr (Nat.le_trans (Nat.log2_self_le h0) h)
theorem sg_log (a : Int) {b : Int} (hb : b ≠ 0) : (sg a b).natAbs.log2 ≤ b.natAbs.log2 := by
  have := gcd_log a hb
  unfold sg; split <;> simpa using this
theorem frac_ok (c : Cs) (a : Int) {b : Int} (hb : b ≠ 0) (hl : b.natAbs.log2 < 9000) (m : Mu) : F_w_frac c [.int a, .int b] m = .ok (fr (Rat.divInt a b)) m := by
  have h := divisor_ok c _ _ (abs_nn a) (abs_nn b) m
  rw [abs_gcd] at h
  have hd : ∀ z, divOk z (sg a b) = true := fun z => divOk_of (sg_ne a hb) (by have := sg_log a hb; omega)
  have hs : sizeLine = 16777216 := rfl
  by_cases h0 : 0 < b
  · have e : ((Int.gcd a b : Nat) : Int) = sg a b := by unfold sg; rw [if_pos h0]
    rw [e] at h
    simp [F_w_frac, env0, h, h0, hd, hs, sg_num a hb, sg_den a hb, fr]
  · have e : ((Int.gcd a b : Nat) : Int) = - sg a b := by unfold sg; rw [if_neg h0]; omega
    rw [e] at h
    simp [F_w_frac, env0, h, h0, hd, hs, sg_num a hb, sg_den a hb, fr]
@[simp ↓] theorem dMake_ap (C : Addr) (G : DFn) (t : DA) (e : En) (m : Mu) : dMake C G t e m = match t e m with
  | .stuck => .stuck
  | .ok ds m1 => mkObj C m1 (G (.loc m1.length :: ds) (m1 ++ [.ins C []]))
  | .exc C fs m1 => .exc C fs m1 := by
  unfold dMake
  cases t e m <;> rfl
@[simp] theorem set_last {α : Type} (m : List α) (x y : α) : (m ++ [x]).set m.length y = m ++ [y] := by
  rw [List.set_append_right _ _ (Nat.le_refl _), Nat.sub_self]; rfl
@[simp] theorem get_last {α : Type} (m : List α) (x : α) : (m ++ [x])[m.length]? = some x := by simp
/-- a Ratio -/
def rat (c : Cs) (q : Rat) : D := .obj c.kRatio [.int q.num, .int q.den]
theorem whole_int (c : Cs) (a : Int) (m : Mu) : F_is_whole c [.int a] m = .ok (.bl true) m := by
  simp [F_is_whole, env0, ans_int, ans_bool, tagOf, Ans.get, primNames]
theorem init_ok (c : Cs) (a : Int) {b : Int} (hb : b ≠ 0) (hl : b.natAbs.log2 < 9000) (m : Mu) :
    F_RatioD_initD c [.loc m.length, .int a, .int b] (m ++ [.ins c.cRatio []]) = .ok .non (m ++ [.ins c.cRatio [("own_top", .int (Rat.divInt a b).num), ("own_bottom", .int (Rat.divInt a b).den)]]) := by
  have h := common_ok c _ _ (abs_nn a) (abs_nn b) (m ++ [.ins c.cRatio []])
  rw [abs_gcd] at h
  have hd : ∀ z, divOk z (sg a b) = true := fun z => divOk_of (sg_ne a hb) (by have := sg_log a hb; omega)
  have hk : (("own_top" : Str) = "own_bottom") = False := by simp; decide +kernel
  by_cases h0 : b < 0
  · have e : ((Int.gcd a b : Nat) : Int) = - sg a b := by unfold sg; rw [if_neg (by omega)]; omega
    rw [e] at h
    simp only [h0, if_true, if_false] at h
    simp [F_RatioD_initD, env0, h, h0, hd, sg_num a hb, sg_den a hb, whole_int, hb, putD, hk]
  · have e : ((Int.gcd a b : Nat) : Int) = sg a b := by unfold sg; rw [if_pos (by omega)]
    rw [e] at h
    simp only [h0, if_true, if_false] at h
    simp [F_RatioD_initD, env0, h, h0, hd, sg_num a hb, sg_den a hb, whole_int, hb, putD, hk]
theorem mk_ratio (c : Cs) (a : Int) {b : Int} (hb : b ≠ 0) (hl : b.natAbs.log2 < 9000) {m : Mu} (hm : Cl m) :
    mkObj c.cRatio m (F_RatioD_initD c [.loc m.length, .int a, .int b] (m ++ [.ins c.cRatio []])) = .ok (rat c (Rat.divInt a b)) m := by
  rw [init_ok c a hb hl]
  simp [mkObj, hm, belows, below, rat, nsRatio]
theorem like_zip (c : Cs) (n : Nat) (e : En) (m : Mu) (he : e.length = 4) (ds : List D) (hl : ds.length ≤ sizeLine) (h : ∀ d ∈ ds, F_w_like c n [d, d] m = .ok (.bl true) m) :
    dCompL (dTupG 2 (dGcons (dName 2) (dGcons (dName 3) dGnil))) dYes (dFun (padF 2 [] (F_w_like c n)) (dCons (dVar 2) (dCons (dVar 3) dNil))) e (ds.map fun a => .tup [a, a]) m [] = .ok (List.replicate ds.length (.bl true)) m := by
  match e, he with
  | [a, b, x, y], _ =>
  rw [dCompL_map (fun _ => .bl true)]
  · rw [List.map_map, show [] ++ List.map ((fun x => D.bl true) ∘ fun a => D.tup [a, a]) ds = List.replicate ds.length (D.bl true) from List.eq_replicate_iff.mpr ⟨by simp, by simp⟩]
  · intro d hd
    obtain ⟨z, hz, rfl⟩ := List.mem_map.mp hd
    refine ⟨[a, b, some z, some z], by simp, by simp, by simp [h z hz]⟩
  · simpa using hl
theorem like_refl (c : Cs) (m : Mu) : ∀ (n : Nat) (d : D), plainD n d → F_w_like c n [d, d] m = .ok (.bl true) m
  | 0, _, h => h.elim
  | n + 1, .non, _ => by simp [F_w_like, env0, gIsN]
  | n + 1, .bl _, _ => by simp [F_w_like, env0, gIsN, ans_bool, ans_int, ans_list, ans_list_tuple, ans_str, ans_tuple, tagOf, Ans.get, primNames]
  | n + 1, .int _, _ => by simp [F_w_like, env0, gIsN, ans_bool, ans_int, ans_list, ans_list_tuple, ans_str, ans_tuple, tagOf, Ans.get, primNames]
  | n + 1, .str _, _ => by simp [F_w_like, env0, gIsN, ans_bool, ans_int, ans_list, ans_list_tuple, ans_str, ans_tuple, tagOf, Ans.get, primNames]
  | n + 1, .tup ds, h => by
    have z := like_zip c n [some (.tup ds), some (.tup ds), none, none] m rfl ds h.1 fun d hd => like_refl c m n d (h.2 d hd)
    simp [F_w_like, env0, gIsN, ans_bool, ans_int, ans_list, ans_list_tuple, ans_str, ans_tuple, tagOf, Ans.get, primNames, z, toBs_trues]
  | n + 1, .lst ds, h => by
    have z := like_zip c n [some (.lst ds), some (.lst ds), none, none] m rfl ds h.1 fun d hd => like_refl c m n d (h.2 d hd)
    simp [F_w_like, env0, gIsN, ans_bool, ans_int, ans_list, ans_list_tuple, ans_str, ans_tuple, tagOf, Ans.get, primNames, z, toBs_trues]
/-! ### fractions: laws of Rat -/
theorem dpos (q : Rat) : (0 : Int) < q.den := by have := q.den_pos; omega
theorem dne (q : Rat) : (q.den : Int) ≠ 0 := by have := dpos q; omega
theorem add_di (q r : Rat) : Rat.divInt (q.num * r.den + r.num * q.den) (q.den * r.den) = q + r := by
  rw [← Rat.divInt_add_divInt _ _ (dne q) (dne r), Rat.num_divInt_den, Rat.num_divInt_den]
theorem sub_di (q r : Rat) : Rat.divInt (q.num * r.den - r.num * q.den) (q.den * r.den) = q - r := by
  rw [← Rat.divInt_sub_divInt _ _ (dne q) (dne r), Rat.num_divInt_den, Rat.num_divInt_den]
theorem mul_di (q r : Rat) : Rat.divInt (q.num * r.num) (q.den * r.den) = q * r := by
  rw [← Rat.divInt_mul_divInt, Rat.num_divInt_den, Rat.num_divInt_den]
theorem neg_di (q : Rat) : Rat.divInt (-q.num) q.den = -q := by
  rw [← Rat.neg_divInt, Rat.num_divInt_den]
theorem div_di (q r : Rat) : Rat.divInt (q.num * r.den) (q.den * r.num) = q / r := by
  rw [Rat.div_def, ← Rat.num_divInt_den q, ← Rat.num_divInt_den r, Rat.inv_divInt, Rat.divInt_mul_divInt]
  simp only [Rat.num_divInt_den]
/-- what is left of a turn -/
def mom (q : Rat) : Rat := q - (q.floor : Rat)
theorem mom_di (q : Rat) : Rat.divInt (q.num % q.den) q.den = mom q := by
  unfold mom
  have h : q.num % (q.den : Int) = q.num - q.den * q.floor := by rw [Rat.floor_def, Int.emod_def]
  rw [h]
  have e := sub_di q (q.floor : Rat)
  simp only [Rat.den_intCast, Rat.num_intCast] at e
  rw [← e]
  congr 1
  · rw [Int.mul_comm (q.den : Int)]; simp
  · simp
theorem red_num {a : Int} {b : Nat} (hb : b ≠ 0) (h : Nat.Coprime a.natAbs b) : (Rat.divInt a b).num = a ∧ (Rat.divInt a b).den = b := by
  have hg : Int.gcd (b : Int) a = 1 := by rw [Int.gcd_comm]; simpa [Int.gcd] using h
  constructor
  · rw [Rat.num_divInt, hg, Int.sign_eq_one_of_pos (by omega)]; simp
  · rw [Rat.den_divInt, hg, if_neg (by omega)]; simp
theorem mom_red (q : Rat) : (mom q).num = q.num % q.den ∧ (mom q).den = q.den := by
  rw [← mom_di q]
  refine red_num q.den_nz ?_
  have h := q.reduced
  unfold Nat.Coprime at h ⊢
  have h2 : Int.gcd q.num q.den = 1 := by simpa [Int.gcd] using h
  have h3 : Int.gcd (q.num % q.den) q.den = 1 := by
    rw [Int.emod_def, Int.gcd_comm]
    simp [Int.gcd_comm, h2]
  simpa [Int.gcd] using h3
theorem one_sub_red (q : Rat) : (1 - q).num = q.den - q.num ∧ (1 - q).den = q.den := by
  have e := sub_di 1 q
  simp only [Rat.one_num, Rat.one_den, Int.one_mul, Int.mul_one, Int.natCast_one] at e
  rw [← e]
  refine red_num q.den_nz ?_
  have h := q.reduced
  have h2 : Int.gcd q.num q.den = 1 := by simpa [Int.gcd, Nat.Coprime] using h
  have h3 : Int.gcd ((q.den : Int) - q.num) q.den = 1 := by
    rw [Int.gcd_comm]
    simp [Int.gcd_comm, h2]
  simpa [Int.gcd, Nat.Coprime] using h3
theorem mom_nn (q : Rat) : 0 ≤ mom q := by unfold mom; have := Rat.floor_le q; grind
theorem mom_lt (q : Rat) : mom q < 1 := by unfold mom; have := Rat.lt_floor_add_one q; simp only [Rat.intCast_add] at this; grind
theorem mom_int (q : Rat) (k : Int) : mom (q + k) = mom q := by
  unfold mom; rw [Rat.floor_add_intCast, Rat.intCast_add]; grind
theorem mom_of {q r : Rat} {k : Int} (h0 : 0 ≤ r) (h1 : r < 1) (e : q = r + k) : mom q = r := by
  rw [e, mom_int]
  unfold mom
  have h : r.floor = 0 := by
    have a := Rat.le_floor_iff (x := 0) (a := r)
    have b := Rat.floor_lt_iff (a := r) (x := 1)
    simp at a b
    have := a.mpr h0; have := b.mpr h1; omega
  rw [h]; grind
theorem mom_ex (q : Rat) : ∃ k : Int, q = mom q + k := ⟨q.floor, by unfold mom; grind⟩
theorem mom_neg (q : Rat) : mom (-q) = if mom q = 0 then 0 else 1 - mom q := by
  obtain ⟨k, hk⟩ := mom_ex q
  have h0 := mom_nn q
  have h1 := mom_lt q
  split
  · rename_i h
    refine mom_of (k := -k) (by simp) (by decide) ?_
    rw [hk, h]; simp only [Rat.intCast_neg]; grind
  · rename_i h
    refine mom_of (k := -k - 1) (by grind) (by grind) ?_
    rw [hk]; simp only [Rat.intCast_neg, Rat.intCast_sub]; grind
/-- how far from the nearest turn -/
def aw (q : Rat) : Rat := if 1 - mom q < mom q then 1 - mom q else mom q
theorem aw_neg (q : Rat) : aw (-q) = aw q := by
  unfold aw
  rw [mom_neg]
  have h0 := mom_nn q
  have h1 := mom_lt q
  by_cases h : mom q = 0
  · simp [h]
  · simp only [h, if_false]; grind
theorem aw_int (q : Rat) (k : Int) : aw (q + k) = aw q := by unfold aw; rw [mom_int]
/-! ### sizes -/
def Bi (k : Nat) (a : Int) : Prop := a.natAbs < 2 ^ k
structure Sz (k : Nat) (q : Rat) : Prop where
  n : Bi k q.num
  d : q.den < 2 ^ k
theorem Bi.mono {j k : Nat} {a : Int} (h : Bi j a) (hk : j ≤ k) : Bi k a := Nat.lt_of_lt_of_le h (Nat.pow_le_pow_right (by decide) hk)
theorem Sz.mono {j k : Nat} {a : Rat} (h : Sz j a) (hk : j ≤ k) : Sz k a := ⟨h.n.mono hk, Nat.lt_of_lt_of_le h.d (Nat.pow_le_pow_right (by decide) hk)⟩
theorem Bi.mul {j k : Nat} {a b : Int} (h : Bi j a) (h' : Bi k b) : Bi (j + k) (a * b) := by
  unfold Bi at *
  rw [Int.natAbs_mul, Nat.pow_add]
  by_cases hb : a.natAbs = 0
  · rw [hb, Nat.zero_mul]; exact Nat.mul_pos (Nat.two_pow_pos _) (Nat.two_pow_pos _)
  · exact Nat.lt_of_lt_of_le ((Nat.mul_lt_mul_left (by omega)).mpr h') (Nat.mul_le_mul_right _ (Nat.le_of_lt h))
theorem Bi.add {k : Nat} {a b : Int} (h : Bi k a) (h' : Bi k b) : Bi (k + 1) (a + b) := by
  unfold Bi at *; rw [Nat.pow_succ]; omega
theorem Bi.sub {k : Nat} {a b : Int} (h : Bi k a) (h' : Bi k b) : Bi (k + 1) (a - b) := by
  unfold Bi at *; rw [Nat.pow_succ]; omega
theorem Bi.neg {k : Nat} {a : Int} (h : Bi k a) : Bi k (-a) := by unfold Bi at *; omega
theorem Bi.emod {k : Nat} {b : Int} (a : Int) (h : Bi k b) (h0 : b ≠ 0) : Bi k (a % b) := by
  unfold Bi at *
  have h1 := Int.emod_nonneg a h0
  have h2 := Int.emod_lt a h0
  omega
theorem Bi.log {k : Nat} {a : Int} (h : Bi k a) : a.natAbs.log2 ≤ k := log_le (Nat.le_of_lt h)
theorem Bi.lit {k : Nat} {a : Int} (h : decide (a.natAbs < 2 ^ k) = true) : Bi k a := by unfold Bi; exact of_decide_eq_true h
theorem Bi.lt {k : Nat} {a : Int} (h1 : -(2 ^ k : Nat) < a) (h2 : a < (2 ^ k : Nat)) : Bi k a := by unfold Bi; omega
theorem Sz.bd {k : Nat} {q : Rat} (h : Sz k q) : Bi k q.den := by have := h.d; unfold Bi; simpa using this
theorem mul_Bi {j k : Nat} {a b : Int} (h : Bi j a) (h' : Bi k b) (hk : j + k < 1000000) : mulOk a b = true := mulOk_of (by have := h.log; have := h'.log; omega)
theorem nn {j k : Nat} {q r : Rat} (h : Sz j q) (h' : Sz k r) (hk : j + k < 1000000 := by decide) : mulOk q.num r.num = true := mul_Bi h.n h'.n hk
theorem nd {j k : Nat} {q r : Rat} (h : Sz j q) (h' : Sz k r) (hk : j + k < 1000000 := by decide) : mulOk q.num r.den = true := mul_Bi h.n h'.bd hk
theorem dn {j k : Nat} {q r : Rat} (h : Sz j q) (h' : Sz k r) (hk : j + k < 1000000 := by decide) : mulOk q.den r.num = true := mul_Bi h.bd h'.n hk
theorem dd {j k : Nat} {q r : Rat} (h : Sz j q) (h' : Sz k r) (hk : j + k < 1000000 := by decide) : mulOk q.den r.den = true := mul_Bi h.bd h'.bd hk
theorem ddl {j k : Nat} {q r : Rat} (h : Sz j q) (h' : Sz k r) (hk : j + k < 9000) : ((q.den : Int) * r.den).natAbs.log2 < 9000 := by have := (h.bd.mul h'.bd).log; omega
theorem Sz.di {k : Nat} {a b : Int} (h : Bi k a) (h' : Bi k b) (hb : b ≠ 0) : Sz k (Rat.divInt a b) := by
  constructor
  · unfold Bi
    rw [Rat.num_divInt]
    have : (b.sign * a / (b.gcd a : Int)).natAbs ≤ a.natAbs := by
      have h1 : (b.sign * a).natAbs = a.natAbs := by rw [Int.natAbs_mul, Int.natAbs_sign_of_ne_zero hb, Nat.one_mul]
      rw [← h1]
      exact Int.natAbs_ediv_le_natAbs _ _
    exact Nat.lt_of_le_of_lt this h
  · rw [Rat.den_divInt, if_neg hb]
    exact Nat.lt_of_le_of_lt (Nat.div_le_self _ _) h'
theorem mul_ne {a b : Int} (h : a ≠ 0) (h' : b ≠ 0) : a * b ≠ 0 := Int.mul_ne_zero h h'
theorem Sz.add {j k : Nat} {q r : Rat} (h : Sz j q) (h' : Sz k r) : Sz (j + k + 1) (q + r) := by
  rw [← add_di]
  refine Sz.di ?_ ((h.bd.mul h'.bd).mono (by omega)) (mul_ne (dne q) (dne r))
  exact (h.n.mul h'.bd).add ((h'.n.mul h.bd).mono (by omega))
theorem Sz.sub {j k : Nat} {q r : Rat} (h : Sz j q) (h' : Sz k r) : Sz (j + k + 1) (q - r) := by
  rw [← sub_di]
  refine Sz.di ?_ ((h.bd.mul h'.bd).mono (by omega)) (mul_ne (dne q) (dne r))
  exact (h.n.mul h'.bd).sub ((h'.n.mul h.bd).mono (by omega))
theorem Sz.mul {j k : Nat} {q r : Rat} (h : Sz j q) (h' : Sz k r) : Sz (j + k) (q * r) := by
  rw [← mul_di]
  exact Sz.di (h.n.mul h'.n) (h.bd.mul h'.bd) (mul_ne (dne q) (dne r))
theorem Sz.neg {j : Nat} {q : Rat} (h : Sz j q) : Sz j (-q) := by
  rw [← neg_di]
  exact Sz.di h.n.neg h.bd (dne q)
theorem Sz.mom {j : Nat} {q : Rat} (h : Sz j q) : Sz j (mom q) := by
  rw [← mom_di]
  exact Sz.di (h.bd.emod _ (dne q)) h.bd (dne q)
theorem Sz.int {j : Nat} {k : Int} (h : Bi j k) (hj : 0 < j) : Sz j (k : Rat) := ⟨by simpa using h, by simpa using Nat.one_lt_two_pow (by omega)⟩
theorem num_ne {q : Rat} (h : q ≠ 0) : q.num ≠ 0 := fun z => h (Rat.num_eq_zero.mp z)
theorem Sz.div {j k : Nat} {q r : Rat} (h : Sz j q) (h' : Sz k r) (h0 : r ≠ 0) : Sz (j + k) (q / r) := by
  rw [← div_di]
  exact Sz.di (h.n.mul h'.bd) (h.bd.mul h'.n) (mul_ne (dne q) (num_ne h0))
/-! ### Ratio -/
@[simp] theorem insOf_rat (m : Mu) (c : Cs) (q : Rat) : insOf m (rat c q) = some (c.cRatio, nsRatio, [.int q.num, .int q.den]) := rfl
@[simp] theorem kRatio_a (c : Cs) : (c.kRatio).a = c.cRatio := rfl
@[simp] theorem kRatio_ns (c : Cs) : (c.kRatio).ns = nsRatio := rfl
@[simp] theorem toV_rat (c : Cs) (q : Rat) (m : Mu) : tagOf m (rat c q) = some (.own c.cRatio) := rfl
theorem top_ok (c : Cs) (q : Rat) (m : Mu) : F_Ratio_top c [rat c q] m = .ok (.int q.num) m := by simp [F_Ratio_top, env0]
theorem bottom_ok (c : Cs) (q : Rat) (m : Mu) : F_Ratio_bottom c [rat c q] m = .ok (.int q.den) m := by simp [F_Ratio_bottom, env0]
theorem rmk (c : Cs) {k : Nat} {a b : Int} {m : Mu} (hb : b ≠ 0) (hl : Bi k b) (hk : k < 9000) (hm : Cl m) :
    mkObj c.cRatio m (F_RatioD_initD c [.loc m.length, .int a, .int b] (m ++ [.ins c.cRatio []])) = .ok (rat c (Rat.divInt a b)) m := mk_ratio c a hb (by have := hl.log; omega) hm
theorem add_ok (c : Cs) {j k : Nat} {q r : Rat} {m : Mu} (h : Sz j q) (h' : Sz k r) (hm : Cl m) (hk : j + k < 9000 := by decide) : F_RatioD_addD c [rat c q, rat c r] m = .ok (rat c (q + r)) m := by
  have e := rmk c (a := q.num * r.den + r.num * q.den) (mul_ne (dne q) (dne r)) (h.bd.mul h'.bd) hk hm
  rw [add_di] at e
  simp [F_RatioD_addD, env0, top_ok, bottom_ok, nd h h' (by omega), nd h' h (by omega), dd h h' (by omega), e]
theorem sub_ok (c : Cs) {j k : Nat} {q r : Rat} {m : Mu} (h : Sz j q) (h' : Sz k r) (hm : Cl m) (hk : j + k < 9000 := by decide) : F_RatioD_subD c [rat c q, rat c r] m = .ok (rat c (q - r)) m := by
  have e := rmk c (a := q.num * r.den - r.num * q.den) (mul_ne (dne q) (dne r)) (h.bd.mul h'.bd) hk hm
  rw [sub_di] at e
  simp [F_RatioD_subD, env0, top_ok, bottom_ok, nd h h' (by omega), nd h' h (by omega), dd h h' (by omega), e]
theorem below_ok (c : Cs) {j k : Nat} {q r : Rat} {m : Mu} (h : Sz j q) (h' : Sz k r) (hk : j + k < 9000 := by decide) : F_Ratio_is_below c [rat c q, rat c r] m = .ok (.bl (decide (q < r))) m := by
  simp [F_Ratio_is_below, env0, top_ok, bottom_ok, nd h h' (by omega), nd h' h (by omega), Rat.lt_iff]
theorem one_sz : Sz 1 1 := ⟨by unfold Bi; decide, by decide⟩
theorem rmk1 (c : Cs) {k : Nat} {a : Int} {m : Mu} (hm : Cl m) :
    mkObj c.cRatio m (F_RatioD_initD c [.loc m.length, .int a, .int 1] (m ++ [.ins c.cRatio []])) = .ok (rat c (a : Rat)) m := by
  rw [rmk c (k := 1) (by decide) (by unfold Bi; decide) (by decide) hm]
  congr 2
  rw [Rat.divInt_eq_div]; simp only [Rat.intCast_one]; grind
/-! ### the law's own fractions -/
theorem parts_ok (c : Cs) (q : Rat) (m : Mu) : F_w_parts c [rat c q] m = .ok (fr q) m := by
  have hs : sizeLine = 16777216 := rfl
  simp [F_w_parts, env0, ans_Ratio__Ratio, Ans.get, top_ok, bottom_ok, hs, fr]
theorem fracR (c : Cs) {k : Nat} {a b : Int} (hb : b ≠ 0) (hl : Bi k b) (hk : k < 9000) (m : Mu) : F_w_frac c [.int a, .int b] m = .ok (fr (Rat.divInt a b)) m := frac_ok c a hb (by have := hl.log; omega) m
theorem minus_ok (c : Cs) {j k : Nat} {q r : Rat} {m : Mu} (h : Sz j q) (h' : Sz k r) (hk : j + k < 9000 := by decide) : F_w_minus c [fr q, fr r] m = .ok (fr (q - r)) m := by
  have e := fracR c (a := q.num * r.den - r.num * q.den) (mul_ne (dne q) (dne r)) (h.bd.mul h'.bd) hk m
  rw [sub_di] at e
  simp only [fr] at e ⊢
  simp [F_w_minus, env0, nd h h' (by omega), nd h' h (by omega), dd h h' (by omega), e]
theorem made_ok (c : Cs) {j : Nat} {q : Rat} {m : Mu} (h : Sz j q) (hm : Cl m) (hk : j < 9000 := by decide) : F_w_made c [fr q] m = .ok (rat c q) m := by
  have e := rmk c (a := q.num) (dne q) h.bd hk hm
  rw [Rat.num_divInt_den] at e
  simp [F_w_made, env0, fr, e]
theorem mom_fr (q : Rat) : fr (mom q) = .tup [.int (q.num % q.den), .int q.den] := by
  unfold fr; rw [(mom_red q).1, (mom_red q).2]
theorem aw_fr (q : Rat) : fr (aw q) = if (mom q).num * 2 ≤ (mom q).den then fr (mom q) else .tup [.int ((mom q).den - (mom q).num), .int (mom q).den] := by
  have h := one_sub_red (mom q)
  have z : (1 - mom q < mom q) ↔ ¬ (mom q).num * 2 ≤ (mom q).den := by
    rw [Rat.lt_iff, h.1, h.2]
    have hp := dpos (mom q)
    rw [Int.mul_lt_mul_right hp]; omega
  unfold aw
  by_cases k : (mom q).num * 2 ≤ (mom q).den
  · rw [if_pos k, if_neg (by rw [z]; simpa using k)]
  · rw [if_neg k, if_pos (z.mpr k), fr, h.1, h.2]
theorem any_frac_ok (c : Cs) {m : Mu} (hb : BagOk m) : ∃ q m', F_w_any_frac c [.loc 0] m = .ok (fr q) m' ∧ Sz 100 q ∧ Bgs m m' := by
  have hs : sizeLine = 16777216 := rfl
  obtain ⟨d1, m1, e1, h1, g1⟩ := one_ok c hb (ds := [.int 1, .int 4, .int 12, .int 1000, .int 1000000000000000000]) (by simp) (by simp)
  obtain ⟨n1, rfl, p1, l1⟩ : ∃ n : Int, d1 = .int n ∧ 0 < n ∧ n < 2 ^ 62 := by
    simp at h1
    rcases h1 with rfl | rfl | rfl | rfl | rfl <;> exact ⟨_, rfl, by decide, by decide⟩
  have b1 := g1.bag hb
  obtain ⟨v2, m2, e2, p2, l2, g2⟩ := take_ok c b1 (n := n1) p1 (by omega)
  have b2 := g2.bag b1
  obtain ⟨d3, m3, e3, h3, g3⟩ := one_ok c b2 (ds := [.int 2, .int 7, .int (3 * (1 + v2) + 1), .int 10000000000000000000]) (by simp) (by simp)
  obtain ⟨n3, rfl, p3, l3⟩ : ∃ n : Int, d3 = .int n ∧ 0 < n ∧ n < 2 ^ 70 := by
    simp at h3
    rcases h3 with rfl | rfl | rfl | rfl <;> exact ⟨_, rfl, by omega, by omega⟩
  have b3 := g3.bag b2
  obtain ⟨v4, m4, e4, p4, l4, g4⟩ := take_ok c b3 (n := n3) p3 (by omega)
  have b4 := g4.bag b3
  obtain ⟨d5, m5, e5, h5, g5⟩ := one_ok c b4 (ds := [.int v4, .int v4, .int (0 - v4)]) (by simp) (by simp)
  obtain ⟨n5, rfl, p5, l5⟩ : ∃ n : Int, d5 = .int n ∧ -(2 ^ 70) < n ∧ n < 2 ^ 70 := by
    simp at h5
    rcases h5 with rfl | rfl <;> exact ⟨_, rfl, by omega, by omega⟩
  have hb2 : Bi 100 (1 + v2) := Bi.lt (by omega) (by omega)
  have hm : mulOk 3 (1 + v2) = true := mul_Bi (Bi.lit (k := 2) (by decide)) hb2 (by omega)
  have ef := fracR c (a := n5) (b := 1 + v2) (by omega) hb2 (by omega) m5
  refine ⟨Rat.divInt n5 (1 + v2), m5, ?_, Sz.di (Bi.lt (by omega) (by omega)) hb2 (by omega), (((g1.trans g2).trans g3).trans g4).trans g5⟩
  simp at e5
  simp [F_w_any_frac, env0, hs, e1, e2, e3, e4, e5, hm, ef]
theorem fr_plain (q : Rat) (n : Nat) : plainD (n + 2) (fr q) := by simp [fr, plainD, sizeLine]
theorem begin_ok (c : Cs) (ns : List Int) (hl : ns.length ≤ 63) : ∃ m, F_w_begin c [.lst (ns.map .int)] [] = .ok (.loc 0) m ∧ BagOk m ∧ Cl m := by
  have hs : sizeLine = 16777216 := rfl
  have hx : cutD (ns.map .int) none (some 63) = (ns.take 63).map D.int := by
    simp [cutD, HT.sIx]
  have hm : ∀ k : Nat, k ≤ 63 → mulOk 17 k = true := fun k hk => mulOk_lt (by omega) (by omega) (by omega) (by omega)
  have hm2 := hm (min 63 ns.length) (by omega)
  have hB : BagO (bagO (ns.take 63) 0 0 (100050 + 17 * (min 63 ns.length : Nat))) := bagO_mk (by omega) (by omega) (by omega) (by omega)
  refine ⟨[bagO (ns.take 63) 0 0 (100050 + 17 * (min 63 ns.length : Nat))], ?_, ⟨_, rfl, hB⟩, ?_⟩
  · simp [F_w_begin, env0, hx, hs, hm2, bagO]
  · intro o ho
    simp at ho
    subst ho
    exact hB.below _
@[simp ↓] theorem dCompL_cons (g : DG) (c : DT) (b : DE) (e : En) (d : D) (ds : List D) (m : Mu) (acc : List D) : dCompL g c b e (d :: ds) m acc = match g d e with
    | none => .stuck
    | some e1 => match c e1 m with
      | .ok true m1 => match b e1 m1 with
        | .ok x m2 => if acc.length < sizeLine then dCompL g c b e ds m2 (acc ++ [x]) else .stuck
        | _ => .stuck
      | .ok false m1 => dCompL g c b e ds m1 acc
      | _ => .stuck := rfl
theorem below_mono {j k : Nat} (h : j ≤ k) : ∀ d : D, below j d = true → below k d = true
  | .loc n, e => by unfold below at e ⊢; have := of_decide_eq_true e; exact decide_eq_true (by omega)
  | .tup ds, e => by unfold below at e ⊢; exact belows_mono' h ds e
  | .lst ds, e => by unfold below at e ⊢; exact belows_mono' h ds e
  | .obj _ ds, e => by unfold below at e ⊢; exact belows_mono' h ds e
  | .xob _ _, e => by unfold below at e; cases e
  | .clo _ _, e => by unfold below at e; cases e
  | .lam _ _, e => by unfold below at e; cases e
  | .non, _ => rfl
  | .bl _, _ => rfl
  | .int _, _ => rfl
  | .str _, _ => rfl
  | .val _, _ => rfl
where belows_mono' {j k : Nat} (h : j ≤ k) : ∀ ds : List D, belows j ds = true → belows k ds = true
  | [], _ => rfl
  | d :: ds, e => by
    unfold belows at e ⊢
    obtain ⟨h1, h2⟩ := Bool.and_eq_true_iff.mp e
    exact Bool.and_eq_true_iff.mpr ⟨below_mono h d h1, belows_mono' h ds h2⟩
theorem belows_mono {j k : Nat} (h : j ≤ k) (ds : List D) (e : belows j ds = true) : belows k ds = true := by
  have := below_mono h (.tup ds) (by unfold below; exact e)
  unfold below at this; exact this
theorem Mo.below_mono {j' k' : Nat} (h : j' ≤ k') {o : Mo} (e : o.below j' = true) : o.below k' = true := by
  cases o with
  | lst ds => exact belows_mono h ds e
  | ins C fs => exact belows_mono h _ e
  | exo C k => cases k with
    | none => rfl
    | some k => exact decide_eq_true (Nat.lt_of_lt_of_le (of_decide_eq_true (show decide (k < j') = true from e)) h)
  | exd fs => exact belows_mono h _ e
  | dik kvs => exact belows_mono h _ e
  | dit kvs => exact belows_mono h _ e
theorem _root_.DL.Cl.snoc {m : Mu} (h : Cl m) {o : Mo} (ho : o.below (m.length + 1) = true) : Cl (m ++ [o]) := by
  intro q hq
  rw [List.length_append, List.length_singleton]
  rcases List.mem_append.mp hq with z | z
  · exact Mo.below_mono (Nat.le_succ _) (h q z)
  · have : q = o := List.mem_singleton.mp z
    subst this; exact ho
theorem _root_.DL.Cl.ins0 {m : Mu} (h : Cl m) (C : Addr) : Cl (m ++ [.ins C []]) := h.snoc rfl
theorem _root_.DL.Cl.ins1 {m : Mu} (h : Cl m) (C : Addr) {f : Str} {d : D} (hd : below 0 d = true) : Cl (m ++ [.ins C [(f, d)]]) := h.snoc (by
  show belows _ [d] = true
  simp [belows, below_mono (Nat.zero_le _) d hd])
theorem rat_below (c : Cs) (q : Rat) (n : Nat) : below n (rat c q) = true := rfl
theorem fr_below (q : Rat) (n : Nat) : below n (fr q) = true := rfl
/-! ### arcs -/
theorem eq_ok (c : Cs) (q r : Rat) (m : Mu) : F_RatioD_eqD c [rat c q, rat c r] m = .ok (.bl (decide (q = r))) m := by
  have h : (q = r) ↔ (q.num = r.num ∧ q.den = r.den) := ⟨fun e => by subst e; exact ⟨rfl, rfl⟩, fun e => Rat.ext e.1 e.2⟩
  by_cases h1 : q.num = r.num
  · by_cases h2 : q.den = r.den
    · simp [F_RatioD_eqD, env0, ans_Ratio__Ratio, Ans.get, top_ok, bottom_ok, h, h1, h2]
    · have h3 : ¬ (q.den : Int) = r.den := by omega
      simp [F_RatioD_eqD, env0, ans_Ratio__Ratio, Ans.get, top_ok, bottom_ok, h, h1, h2, h3]
  · simp [F_RatioD_eqD, env0, ans_Ratio__Ratio, Ans.get, top_ok, bottom_ok, h, h1]
/-! ### over ranges -/
theorem comp_rng {g : DG} {cc : DT} {b : DE} {e : En} {m : Mu} (n : Nat) (f : Nat → D) (h : ∀ k : Nat, k < n → ∃ e1, g (.int k) e = some e1 ∧ cc e1 m = .ok true m ∧ b e1 m = .ok (f k) m) (hl : n ≤ sizeLine) :
    dCompL g cc b e (rngD 0 n) m [] = .ok ((List.range n).map f) m := by
  have hf : ∀ d, d ∈ rngD 0 n → ∃ k : Nat, k < n ∧ d = .int k := fun d hd => by
    unfold rngD at hd
    obtain ⟨k, hk, rfl⟩ := List.mem_map.mp hd
    exact ⟨k, List.mem_range.mp hk, by simp⟩
  rw [dCompL_map (fun d => match d with
    | .int i => f i.toNat
    | d => d)]
  · simp [rngD, Function.comp_def]
  · intro d hd
    obtain ⟨k, hk, rfl⟩ := hf d hd
    obtain ⟨e1, h1, h2, h3⟩ := h k hk
    exact ⟨e1, h1, h2, by simpa using h3⟩
  · simpa [rngD] using hl
theorem toBs_rng (n : Nat) (p : Nat → Bool) : toBs ((List.range n).map fun k => .bl (p k)) = some ((List.range n).map p) := by
  have : ∀ l : List Nat, toBs (l.map fun k => .bl (p k)) = some (l.map p) := fun l => by
    induction l with
    | nil => rfl
    | cons a l ih => simp [toBs, ih]
  exact this _
theorem mul2 {a : Int} (h : -(2 ^ 60 : Nat) < a) (h2 : a < (2 ^ 60 : Nat)) : mulOk 2 a = true := mulOk_lt (by omega) (by omega) (by omega) (by omega)
theorem mul2' {a : Int} (h : -(2 ^ 60 : Nat) < a) (h2 : a < (2 ^ 60 : Nat)) : mulOk a 2 = true := mulOk_lt (by omega) (by omega) (by omega) (by omega)
/-- one arc within another, by the fine cycle -/
theorem inside_iff {a w b v P : Int} (hP : 0 < P) (ha : 0 ≤ a ∧ a < P) (hw : 0 ≤ w ∧ w ≤ P) (hb : 0 ≤ b ∧ b < P) (hv : 0 ≤ v ∧ v ≤ P) :
    ((List.range (2 * w + 1).toNat).all fun k => decide ((2 * a + k - 2 * b) % (2 * P) ≤ 2 * v)) = decide (v = P ∨ (a - b) % P + w ≤ v) := by
  rw [Bool.eq_iff_iff, List.all_eq_true, decide_eq_true_iff]
  have d1 := mod_b (a := a - b) hP
  have hd : ∃ q, a - b = (a - b) % P + P * q := ⟨(a - b) / P, by have := Int.emod_add_mul_ediv (a - b) P; omega⟩
  obtain ⟨q, hq⟩ := hd
  generalize (a - b) % P = d at *
  have key : ∀ k : Int, (2 * a + k - 2 * b) % (2 * P) = (2 * d + k) % (2 * P) := fun k => by
    have : 2 * a + k - 2 * b = (2 * d + k) + (2 * P) * q := by rw [Int.mul_assoc]; omega
    rw [this, Int.add_mul_emod_self_left]
  constructor
  · intro h
    rcases Classical.em (v = P ∨ d + w ≤ v) with z | z
    · exact z
    · exfalso
      have z1 : ¬ v = P := fun e => z (.inl e)
      have z2 : ¬ d + w ≤ v := fun e => z (.inr e)
      by_cases h2 : 2 * d ≤ 2 * v + 1
      · have hk := h (2 * v + 1 - 2 * d).toNat (List.mem_range.mpr (by omega))
        rw [decide_eq_true_iff, key] at hk
        have e : 2 * d + ((2 * v + 1 - 2 * d).toNat : Int) = 2 * v + 1 := by omega
        rw [e, Int.emod_eq_of_lt (by omega) (by omega)] at hk
        omega
      · have hk := h 0 (List.mem_range.mpr (by omega))
        rw [decide_eq_true_iff, key] at hk
        have e : 2 * d + ((0 : Nat) : Int) = 2 * d := by omega
        rw [e, Int.emod_eq_of_lt (by omega) (by omega)] at hk
        omega
  · intro h k hk
    have hk := List.mem_range.mp hk
    rw [decide_eq_true_iff, key]
    have := mod_b (a := 2 * d + (k : Int)) (n := 2 * P) (by omega)
    rcases h with h | h
    · omega
    · by_cases z : 2 * d + (k : Int) < 2 * P
      · rw [Int.emod_eq_of_lt (by omega) z]; omega
      · omega
/-- moments of a whole number of parts -/
theorem di_sub (a b P : Int) : Rat.divInt a P - Rat.divInt b P = Rat.divInt (a - b) P := by
  rw [Rat.divInt_eq_div, Rat.divInt_eq_div, Rat.divInt_eq_div, Rat.intCast_sub]
  rw [Rat.div_def, Rat.div_def, Rat.div_def]; grind
theorem di_add (a b P : Int) : Rat.divInt a P + Rat.divInt b P = Rat.divInt (a + b) P := by
  rw [Rat.divInt_eq_div, Rat.divInt_eq_div, Rat.divInt_eq_div, Rat.intCast_add]
  rw [Rat.div_def, Rat.div_def, Rat.div_def]; grind
theorem di_le {a b P : Int} (hP : 0 < P) : Rat.divInt a P ≤ Rat.divInt b P ↔ a ≤ b := by
  have hp : (0 : Rat) < (P : Rat) := by rw [← Rat.intCast_zero]; exact Rat.intCast_lt_intCast.mpr hP
  rw [Rat.divInt_eq_div, Rat.divInt_eq_div]
  rw [← Rat.intCast_le_intCast (a := a) (b := b)]
  constructor
  · intro h
    have h2 := Rat.mul_le_mul_of_nonneg_right h (Rat.le_of_lt hp)
    rwa [Rat.div_mul_cancel (Rat.ne_of_gt hp), Rat.div_mul_cancel (Rat.ne_of_gt hp)] at h2
  · intro h
    rw [Rat.div_def, Rat.div_def]
    exact Rat.mul_le_mul_of_nonneg_right h (Rat.le_of_lt (Rat.inv_pos.mpr hp))
theorem di_inj {a b P : Int} (hP : 0 < P) : Rat.divInt a P = Rat.divInt b P ↔ a = b := by
  constructor
  · intro h
    have h1 : a ≤ b := (di_le hP).mp (by rw [h]; exact Rat.le_refl)
    have h2 : b ≤ a := (di_le hP).mp (by rw [h]; exact Rat.le_refl)
    omega
  · intro h; rw [h]
theorem di_self {P : Int} (hP : 0 < P) : Rat.divInt P P = 1 := Rat.divInt_self' (by omega)
theorem di_zero (P : Int) : Rat.divInt 0 P = 0 := Rat.zero_divInt P
theorem mom_divInt (a : Int) {P : Int} (hP : 0 < P) : mom (Rat.divInt a P) = Rat.divInt (a % P) P := by
  have d1 := mod_b (a := a) hP
  have hq : a = a % P + P * (a / P) := by have := Int.emod_add_mul_ediv a P; omega
  refine mom_of (k := a / P) ?_ ?_ ?_
  · rw [← di_zero P]; exact (di_le hP).mpr d1.1
  · rw [← di_self hP]
    rw [← Rat.not_le, di_le hP]; omega
  · have e : ((a / P : Int) : Rat) = Rat.divInt (P * (a / P)) P := by
      rw [Rat.divInt_eq_div, Rat.intCast_mul, Rat.div_def, Rat.mul_comm (P : Rat), Rat.mul_assoc, Rat.mul_inv_cancel, Rat.mul_one]
      have : (P : Rat) ≠ 0 := by rw [Ne, Rat.intCast_eq_zero_iff]; omega
      exact this
    rw [e, di_add, ← hq]
theorem mom_id {q : Rat} (h0 : 0 ≤ q) (h1 : q < 1) : mom q = q := mom_of (k := 0) h0 h1 (by grind)
theorem mom_mom (q : Rat) : mom (mom q) = mom q := mom_id (mom_nn q) (mom_lt q)
theorem mom_sub_mom (q r : Rat) : mom (mom q - mom r) = mom (q - r) := by
  obtain ⟨j, hj⟩ := mom_ex q
  obtain ⟨k, hk⟩ := mom_ex r
  have e : q - r = (mom q - mom r) + ((j - k : Int) : Rat) := by
    rw [Rat.intCast_sub]
    grind
  rw [e, mom_int]
theorem mom_add_mom (q r : Rat) : mom (mom q + r) = mom (q + r) := by
  obtain ⟨j, hj⟩ := mom_ex q
  have e : q + r = (mom q + r) + (j : Rat) := by grind
  rw [e, mom_int]
/-! ### texts of fractions -/
def itxt (i : Int) : Str := Str.ofString i.repr
def wtxt (q : Rat) : Str := if q.den = 1 then itxt q.num else itxt q.num ++ "/" ++ itxt q.den
theorem itxt_len {k : Nat} {i : Int} (h : Bi k i) (hk : k < 1900) : (itxt i).length ≤ 2000 := by
  have e := int_text_length_le (a := i) (k := 1900) (by decide) (by have := h.log; omega)
  unfold itxt
  rw [ofString_length]
  have e : i.repr.length ≤ 1900 + 1 := e
  omega
theorem slash_len : (Str.ofString "/").length = 1 := by decide +kernel
theorem wtxt_len {k : Nat} {q : Rat} (h : Sz k q) (hk : k < 1900) : (wtxt q).length ≤ 5000 := by
  have h1 := itxt_len h.n hk
  have h2 := itxt_len h.bd hk
  unfold wtxt
  split
  · omega
  · rw [Str.length_append, Str.length_append, slash_len]; omega
/-! ### more of fractions -/
theorem mulR_ok (c : Cs) {j k : Nat} {q r : Rat} {m : Mu} (h : Sz j q) (h' : Sz k r) (hm : Cl m) (hk : j + k < 9000 := by decide) : F_RatioD_mulD c [rat c q, rat c r] m = .ok (rat c (q * r)) m := by
  have e := rmk c (a := q.num * r.num) (mul_ne (dne q) (dne r)) (h.bd.mul h'.bd) hk hm
  rw [mul_di] at e
  simp [F_RatioD_mulD, env0, top_ok, bottom_ok, nn h h' (by omega), dd h h' (by omega), e]
theorem half_sz : Sz 2 (1/2) := ⟨by unfold Bi; decide +kernel, by decide +kernel⟩
theorem half_eq : Rat.divInt 1 2 = 1/2 := by decide +kernel
theorem plus_ok (c : Cs) {j k : Nat} {q r : Rat} {m : Mu} (h : Sz j q) (h' : Sz k r) (hk : j + k < 9000 := by decide) : F_w_plus c [fr q, fr r] m = .ok (fr (q + r)) m := by
  have e := fracR c (a := q.num * r.den + r.num * q.den) (mul_ne (dne q) (dne r)) (h.bd.mul h'.bd) hk m
  rw [add_di] at e
  simp only [fr] at e ⊢
  simp [F_w_plus, env0, nd h h' (by omega), nd h' h (by omega), dd h h' (by omega), e]
theorem times_ok (c : Cs) {j k : Nat} {q r : Rat} {m : Mu} (h : Sz j q) (h' : Sz k r) (hk : j + k < 9000 := by decide) : F_w_times c [fr q, fr r] m = .ok (fr (q * r)) m := by
  have e := fracR c (a := q.num * r.num) (mul_ne (dne q) (dne r)) (h.bd.mul h'.bd) hk m
  rw [mul_di] at e
  simp only [fr] at e ⊢
  simp [F_w_times, env0, nn h h' (by omega), dd h h' (by omega), e]
theorem lessW_ok (c : Cs) {j k : Nat} {q r : Rat} {m : Mu} (h : Sz j q) (h' : Sz k r) (hk : j + k < 9000 := by decide) : F_w_less c [fr q, fr r] m = .ok (.bl (decide (q < r))) m := by
  simp [F_w_less, env0, fr, nd h h' (by omega), nd h' h (by omega), Rat.lt_iff]
/-! ### more of arcs -/
/-! ### names -/
def letters : Str := "abcdefghijklmnopqrstuvwxyz"
def sgn (k : Nat) : Str := ⟨#[97 + k]⟩
theorem letters_eq : letters.cps.toList = (List.range 26).map fun k => 97 + k := by decide +kernel
theorem letters_len : letters.length = 26 := by decide +kernel
/-- only small letters -/
def Low (x : Str) : Prop := ∀ ch ∈ x.cps.toList, 97 ≤ ch ∧ ch ≤ 122
structure Good (x : Str) : Prop where
  lo : 1 ≤ x.length
  hi : x.length ≤ 8
  low : Low x
theorem sgn_in : ∀ k < 26, occurs (sgn k) letters = true := by decide +kernel
theorem letter_at {k : Int} (h0 : 0 ≤ k) (h1 : k < 26) : atI letters.cps.toList k = some (97 + k.toNat) := by
  obtain ⟨j, rfl⟩ := Int.eq_ofNat_of_zero_le h0
  rw [letters_eq, DL.atI_nat, List.getElem?_map, List.getElem?_range (by omega)]
  simp
theorem ix_letter {k : Int} (h0 : 0 ≤ k) (h1 : k < 26) (m : Mu) : gIx (.str letters) (.int k) m = .ok (.str (sgn k.toNat)) m := by
  have hs : sizeLine = 16777216 := rfl
  have e : gIx (.str letters) (.int k) m = if letters.length ≤ sizeLine then (match atI letters.cps.toList k with
      | some ch => .ok (.str ⟨#[ch]⟩) m
      | none => .stuck) else .stuck := rfl
  rw [e, if_pos (by rw [letters_len, hs]; omega), letter_at h0 h1]
  rfl
theorem sgn_low {k : Nat} (h : k < 26) : Low (sgn k) := by
  intro ch hch
  have : ch = 97 + k := by simpa [sgn] using hch
  omega
theorem sgn_len (k : Nat) : (sgn k).length = 1 := rfl
theorem joinL_nil : ∀ ps : List (List Nat), TL.joinL [] ps = ps.flatten
  | [] => rfl
  | [p] => by simp [TL.joinL]
  | p :: q :: r => by
    show p ++ ([] ++ TL.joinL [] (q :: r)) = _
    rw [joinL_nil (q :: r)]; simp
/-- item by item -/
inductive Two (P : D → D → Prop) : List D → List D → Prop
  | nil : Two P [] []
  | cons {d x : D} {ds xs : List D} : P d x → Two P ds xs → Two P (d :: ds) (x :: xs)
theorem Two.len {P : D → D → Prop} : ∀ {ds xs : List D}, Two P ds xs → xs.length = ds.length
  | _, _, .nil => rfl
  | _, _, .cons _ t => by simp [Two.len t]
theorem Two.all {P : D → D → Prop} {Q : D → Prop} : ∀ {ds xs : List D}, Two P ds xs → (∀ d x, P d x → Q x) → ∀ x ∈ xs, Q x
  | _, _, .nil, _, _, h => nomatch h
  | _, _, .cons p t, f, x, h => by
    rcases List.mem_cons.mp h with e | e
    · subst e; exact f _ _ p
    · exact Two.all t f x e
/-- a comprehension whose elements are drawn -/
theorem comp_draw {g : DG} {cc : DT} {b : DE} {e : En} (P : D → D → Prop) : ∀ (ds acc : List D) (m : Mu), BagOk m →
    (∀ d ∈ ds, ∀ m, BagOk m → ∃ e1 x m', g d e = some e1 ∧ cc e1 m = .ok true m ∧ b e1 m = .ok x m' ∧ P d x ∧ Bgs m m') → acc.length + ds.length ≤ sizeLine →
    ∃ xs m', dCompL g cc b e ds m acc = .ok (acc ++ xs) m' ∧ Two P ds xs ∧ Bgs m m'
  | [], acc, m, hb, _, _ => ⟨[], m, by simp, .nil, hb.rfl'⟩
  | d :: ds, acc, m, hb, h, hl => by
    obtain ⟨e1, x, m', h1, h2, h3, h4, h5⟩ := h d (by simp) m hb
    obtain ⟨xs, m2, k1, k2, k3⟩ := comp_draw P ds (acc ++ [x]) m' (h5.bag hb) (fun y hy => h y (by simp [hy])) (by simp at hl ⊢; omega)
    refine ⟨x :: xs, m2, ?_, .cons h4 k2, h5.trans k3⟩
    rw [dCompL_cons, h1]
    simp only [h2, h3]
    rw [if_pos (by simp at hl; omega), k1]
    simp
theorem one_letter (c : Cs) {m : Mu} (hb : BagOk m) : ∃ k m', F_w_one c [.loc 0, .str letters] m = .ok (.str (sgn k)) m' ∧ k < 26 ∧ Bgs m m' := by
  have hs : sizeLine = 16777216 := rfl
  obtain ⟨v, m', e, h1, h2, h3⟩ := take_ok c hb (n := 26) (by omega) (by omega)
  refine ⟨v.toNat, m', ?_, by omega, h3⟩
  have i := ix_letter h1 h2 m'
  have l : gLen [.str letters] m = .ok (.int 26) m := by
    rw [show gLen [.str letters] m = if letters.length ≤ sizeLine then Res.ok (.int letters.length) m else .stuck from rfl, if_pos (by rw [letters_len, hs]; omega), letters_len]; rfl
  simp [F_w_one, env0, l, e, i, -gLen_ap]
theorem toSs_two {ds xs : List D} (h : Two (fun _ x => ∃ k, x = .str (sgn k) ∧ k < 26) ds xs) : ∃ ys, toSs xs = some ys ∧ ys.length = ds.length ∧ ∀ y ∈ ys, Low y ∧ y.length = 1 := by
  induction h with
  | nil => exact ⟨[], rfl, rfl, fun y h => nomatch h⟩
  | cons p t ih =>
    obtain ⟨k, rfl, hk⟩ := p
    obtain ⟨ys, h1, h2, h3⟩ := ih
    refine ⟨sgn k :: ys, by simp [toSs, h1], by simp [h2], fun y hy => ?_⟩
    rcases List.mem_cons.mp hy with e | e
    · subst e; exact ⟨sgn_low hk, rfl⟩
    · exact h3 y e
theorem join_low {ys : List Str} (h : ∀ y ∈ ys, Low y ∧ y.length = 1) : Low (Txt.join "" ys) ∧ (Txt.join "" ys).length = ys.length := by
  have e : (Txt.join "" ys).cps.toList = (ys.map fun y => y.cps.toList).flatten := by
    rw [TL.join_eq]
    have := TL.tl_join "" ys
    have e0 : TL.tl ("" : Str) = [] := by decide +kernel
    rw [e0, joinL_nil] at this
    exact this
  constructor
  · intro ch hch
    rw [e] at hch
    obtain ⟨l, hl, hch⟩ := List.mem_flatten.mp hch
    obtain ⟨y, hy, rfl⟩ := List.mem_map.mp hl
    exact (h y hy).1 ch hch
  · have hl : ∀ zs : List Str, (∀ z ∈ zs, z.length = 1) → ((zs.map fun y => y.cps.toList).flatten).length = zs.length := fun zs => by
      induction zs with
      | nil => intro _; rfl
      | cons z zs ih =>
        intro hz
        have h1 := hz z (by simp)
        have h2 := ih fun y hy => hz y (by simp [hy])
        have e1 : z.cps.toList.length = 1 := by rw [← h1]; simp [Str.length]
        rw [List.map_cons, List.flatten_cons, List.length_append, h2, e1, List.length_cons]
        omega
    have e2 : (Txt.join "" ys).length = (Txt.join "" ys).cps.toList.length := by simp [Str.length]
    rw [e2, e, hl ys fun y hy => (h y hy).2]
def nameAt (stem : Str) (a f : Int) (k : Nat) : Str := cutS stem none (some a) ++ sgn ((f + 5 * k) % 26).toNat ++ cutS stem (some a) none
theorem cut_lo (x : Str) {a : Int} (h0 : 0 ≤ a) (h1 : a ≤ x.length) : (cutS x none (some a)).cps.toList = x.cps.toList.take a.toNat := by
  obtain ⟨j, rfl⟩ := Int.eq_ofNat_of_zero_le h0
  have hj : j ≤ x.length := by omega
  unfold cutS
  rw [HT.sIx_none, HT.sIx_nat]
  simp [Nat.min_eq_left hj]
theorem cut_hi (x : Str) {a : Int} (h0 : 0 ≤ a) (h1 : a ≤ x.length) : (cutS x (some a) none).cps.toList = x.cps.toList.drop a.toNat := by
  obtain ⟨j, rfl⟩ := Int.eq_ofNat_of_zero_le h0
  have hj : j ≤ x.length := by omega
  unfold cutS
  rw [HT.sIx_none, HT.sIx_nat]
  have hj' : min j x.length = j := Nat.min_eq_left hj
  rw [hj']
  show (List.take (x.length - j) (List.drop (Int.toNat (j : Int)) x.cps.toList)).toArray.toList = _
  simp only [Int.toNat_natCast]
  exact List.take_of_length_le (by simp [Str.length])
theorem nameAt_cps {x : Str} {a f : Int} (h0 : 0 ≤ a) (h1 : a ≤ x.length) (k : Nat) : (nameAt x a f k).cps.toList = x.cps.toList.take a.toNat ++ [97 + ((f + 5 * k) % 26).toNat] ++ x.cps.toList.drop a.toNat := by
  unfold nameAt
  have e : ∀ y z : Str, (y ++ z).cps.toList = y.cps.toList ++ z.cps.toList := fun y z => by rw [Str.cps_append]; simp
  rw [e, e, cut_lo x h0 h1, cut_hi x h0 h1]; rfl
theorem nameAt_good {x : Str} {a f : Int} (h0 : 0 ≤ a) (h1 : a ≤ x.length) (hx : x.length ≤ 7) (hl : Low x) (k : Nat) : Good (nameAt x a f k) := by
  have hc := nameAt_cps (f := f) h0 h1 k
  have hlen : (nameAt x a f k).length = x.length + 1 := by
    have e1 : (nameAt x a f k).length = (nameAt x a f k).cps.toList.length := by simp [Str.length]
    have e2 : x.length = x.cps.toList.length := by simp [Str.length]
    rw [e1, hc]
    simp only [List.length_append, List.length_take, List.length_drop, List.length_singleton]
    omega
  refine ⟨by omega, by omega, fun ch hch => ?_⟩
  rw [hc] at hch
  simp only [List.mem_append, List.mem_singleton] at hch
  rcases hch with (h | h) | h
  · exact hl ch (List.mem_of_mem_take h)
  · have := mod_b (a := f + 5 * k) (n := 26) (by decide); omega
  · exact hl ch (List.mem_of_mem_drop h)
theorem nameAt_inj {x : Str} {a f : Int} (h0 : 0 ≤ a) (h1 : a ≤ x.length) {j k : Nat} (hj : j < 26) (hk : k < 26) (h : nameAt x a f j = nameAt x a f k) : j = k := by
  have e := congrArg (fun y : Str => y.cps.toList) h
  simp only [nameAt_cps h0 h1, List.append_assoc, List.append_cancel_left_eq, List.singleton_append, List.cons.injEq, and_true] at e
  have := mod_b (a := f + 5 * j) (n := 26) (by decide)
  have := mod_b (a := f + 5 * k) (n := 26) (by decide)
  omega
/-! ### lights -/
theorem bool_ok (c : Cs) (q : Rat) (m : Mu) : F_RatioD_boolD c [rat c q] m = .ok (.bl (q.num != 0)) m := by
  simp [F_RatioD_boolD, env0]
/-! ### lights: texts, equality, room; rows of a law -/
theorem sp_len : (Str.ofString " ").length = 1 := by decide +kernel
def ltx (x : Str) (s o b : Rat) : Str := x ++ Str.ofString " " ++ wtxt s ++ Str.ofString " " ++ wtxt o ++ Str.ofString " " ++ wtxt b
theorem ltx_len {j k l : Nat} {x : Str} {s o b : Rat} (hx : x.length ≤ 100) (hs : Sz j s) (ho : Sz k o) (hb : Sz l b) (hk : j + k + l < 1900) : (ltx x s o b).length ≤ 20000 := by
  have l1 := wtxt_len hs (by omega)
  have l2 := wtxt_len ho (by omega)
  have l3 := wtxt_len hb (by omega)
  unfold ltx
  simp only [Str.length_append, sp_len]
  omega
theorem aw_di (k : Int) {n : Int} (hn : 0 < n) : aw (Rat.divInt k n) = Rat.divInt (if k % n * 2 ≤ n then k % n else n - k % n) n := by
  unfold aw
  rw [mom_divInt _ hn]
  have e : (1 : Rat) - Rat.divInt (k % n) n = Rat.divInt (n - k % n) n := by rw [← di_self hn, di_sub]
  rw [e]
  have z : (Rat.divInt (n - k % n) n < Rat.divInt (k % n) n) ↔ ¬ k % n * 2 ≤ n := by
    rw [← Rat.not_le, di_le hn]; omega
  by_cases h : k % n * 2 ≤ n
  · rw [if_pos h, if_neg (fun t => z.mp t h)]
  · rw [if_neg h, if_pos (z.mpr h)]
/-- a row of a law: a light in parts of the cycle -/
structure Row where
  nm : Str
  s : Int
  o : Int
  b : Int
def rowD (r : Row) : D := .tup [.str r.nm, .int r.s, .int r.o, .int r.b]
structure RowOk (P : Int) (r : Row) : Prop where
  nm : Good r.nm
  s0 : 0 < r.s
  s1 : r.s < P
  o0 : 0 ≤ r.o
  o1 : r.o ≤ 3 * P
  b0 : 0 ≤ r.b
  b1 : r.b ≤ 3 * P
theorem sz20 {P a : Int} (hP : 0 < P) (hP2 : P < 1000) (h1 : -100000 ≤ a) (h2 : a ≤ 100000) : Sz 20 (Rat.divInt a P) := Sz.di (Bi.lt (by omega) (by omega)) (Bi.lt (by omega) (by omega)) (by omega)
theorem q_nn {P a : Int} (hP : 0 < P) (h : 0 ≤ a) : 0 ≤ Rat.divInt a P := by rw [← di_zero P]; exact (di_le hP).mpr h
theorem q_pos {P a : Int} (hP : 0 < P) (h : 0 < a) : 0 < Rat.divInt a P := by rw [← di_zero P, ← Rat.not_le, di_le hP]; omega
theorem q_lt1 {P a : Int} (hP : 0 < P) (h : a < P) : Rat.divInt a P < 1 := by rw [← di_self hP, ← Rat.not_le, di_le hP]; omega
/-! ### streets and settings -/
structure Lt where
  x : Str
  s : Rat
  o : Rat
  b : Rat
structure LtOk (k : Nat) (l : Lt) : Prop where
  nm : Good l.x
  zs : Sz k l.s
  zo : Sz k l.o
  zb : Sz k l.b
  s0 : 0 < l.s
  s1 : l.s < 1
  o0 : 0 ≤ l.o
  b0 : 0 ≤ l.b
def rowL (P : Int) (r : Row) : Lt := ⟨r.nm, Rat.divInt r.s P, Rat.divInt r.o P, Rat.divInt r.b P⟩
theorem rowL_ok {P : Int} (hP : 0 < P) (hP2 : P < 1000) {r : Row} (h : RowOk P r) : LtOk 20 (rowL P r) := by
  obtain ⟨hn, s0, s1, o0, o1, b0, b1⟩ := h
  exact ⟨hn, sz20 hP hP2 (by omega) (by omega), sz20 hP hP2 (by omega) (by omega), sz20 hP hP2 (by omega) (by omega), q_pos hP s0, q_lt1 hP s1, q_nn hP o0, q_nn hP b0⟩
theorem inV_str (x : Str) : ∀ xs : List Str, inV (.str x) (xs.map V.str) = decide (x ∈ xs)
  | [] => by simp [inV]
  | y :: xs => by
    have ih := inV_str x xs
    unfold inV at ih ⊢
    rw [List.map_cons, List.any_cons, ih]
    by_cases h : x = y
    · subst h; simp [eqV]
    · have h' : ¬ y = x := fun e => h e.symm
      simp [eqV, h, h']
theorem toVs_strs : ∀ xs : List Str, toVs (xs.map D.str) = some (xs.map V.str)
  | [] => rfl
  | x :: xs => by simp [toVs, toV, toVs_strs xs]
theorem gIn_strs (x : Str) (xs : List Str) (m : Mu) : gIn (.str x) (.lst (xs.map .str)) m = .ok (.bl (decide (x ∈ xs))) m := by
  have e : gInQ false (.str x) (.lst (xs.map .str)) m = .ok (.bl (decide (x ∈ xs))) m := by
    unfold gInQ
    simp only [toV, seqA_lst, Option.bind_some, toVs_strs, inV_str, Bool.false_xor]
  show orD (gInS false) (gInQ false) _ _ m = _
  unfold orD
  rw [show gInS false (.str x) (.lst (xs.map .str)) m = .stuck from rfl]
  exact e
theorem cutD_take (xs : List D) (k : Nat) : cutD xs none (some (k : Int)) = xs.take k := by
  unfold cutD
  rw [HT.sIx_none, HT.sIx_nat]
  simp only [List.drop_zero, Nat.sub_zero]
  by_cases h : k ≤ xs.length
  · rw [Nat.min_eq_left h]
  · rw [Nat.min_eq_right (by omega), List.take_of_length_le (Nat.le_refl _), List.take_of_length_le (by omega)]
theorem rats_below (c : Cs) (n : Nat) : ∀ ls : List Rat, belows n (ls.map (rat c)) = true
  | [] => rfl
  | l :: ls => by
    have : below n (rat c l) = true := rfl
    simp [belows, this, rats_below c n ls]
theorem toBs_all {α : Type} (f : α → Bool) : ∀ xs : List α, toBs (xs.map fun x => .bl (f x)) = some (xs.map f)
  | [] => rfl
  | x :: xs => by simp [toBs, toBs_all f xs]
theorem filt_true {α : Type} (xs : List α) : (xs.filter fun _ => true) = xs := by simp
/-! ### loops, told by items -/
theorem loop_rel {α : Type} {g : DG} {b : DS} {F : α → D} (I : List α → En → Mu → Prop) : ∀ (xs pre : List α) (e : En) (m : Mu), (∀ pre' a post, pre ++ xs = pre' ++ a :: post → ∀ e m, I pre' e m → ∃ e1 e2 m2, g (F a) e = some e1 ∧ b e1 m = .nx e2 m2 ∧ I (pre' ++ [a]) e2 m2) → I pre e m →
    ∃ e2 m2, dLoop g b (xs.map F) e m = .nx e2 m2 ∧ I (pre ++ xs) e2 m2
  | [], pre, e, m, _, h => ⟨e, m, rfl, by simpa using h⟩
  | x :: xs, pre, e, m, hs, h => by
    obtain ⟨e1, e2, m2, h1, h2, h3⟩ := hs pre x xs rfl e m h
    obtain ⟨e3, m3, h4, h5⟩ := loop_rel (F := F) I xs (pre ++ [x]) e2 m2 (fun p a q hx e m hi => hs p a q (by rw [← hx]; simp) e m hi) h3
    refine ⟨e3, m3, ?_, by simpa using h5⟩
    rw [List.map_cons, dLoop_step h1 h2]
    exact h4
theorem toIs_map {α : Type} (f : α → Int) : ∀ xs : List α, toIs (xs.map fun x => .int (f x)) = some (xs.map f)
  | [] => rfl
  | x :: xs => by simp [toIs, toIs_map f xs]
theorem exists_min {α : Type} (g : α → Int) : ∀ (l : List α), l ≠ [] → ∃ a ∈ l, ∀ b ∈ l, g a ≤ g b
  | [], h => absurd rfl h
  | [x], _ => ⟨x, by simp, by simp⟩
  | x :: y :: l, _ => by
    obtain ⟨a, ha, hb⟩ := exists_min g (y :: l) (by simp)
    by_cases h : g x ≤ g a
    · refine ⟨x, by simp, fun b hm => ?_⟩
      rcases List.mem_cons.mp hm with e | e
      · subst e; exact Int.le_refl _
      · exact Int.le_trans h (hb b e)
    · refine ⟨a, List.mem_cons_of_mem _ ha, fun b hm => ?_⟩
      rcases List.mem_cons.mp hm with e | e
      · subst e; omega
      · exact hb b e
/-! ### distances on a ring -/
def dst (N a : Int) : Int := if N - a % N < a % N then N - a % N else a % N
theorem dst_nn {N : Int} (h : 0 < N) (a : Int) : 0 ≤ dst N a := by
  unfold dst; have := mod_b (a := a) h; split <;> omega
theorem dst_le {N : Int} (h : 0 < N) {a z k : Int} (e : a = z + k * N) {B : Int} (h1 : -B ≤ z) (h2 : z ≤ B) : dst N a ≤ B := by
  have hm := mod_b (a := z) h
  have e1 : a % N = z % N := by rw [e, Int.add_mul_emod_self_right]
  have e2 := Int.emod_add_mul_ediv z N
  unfold dst
  rw [e1]
  by_cases hz : 0 ≤ z
  · by_cases hzN : z < N
    · rw [Int.emod_eq_of_lt hz hzN]
      split <;> omega
    · split <;> omega
  · by_cases hzN : -N ≤ z
    · have e3 : z % N = z + N ∨ z % N = z := by
        have : (z + N) % N = z % N := by simp
        rw [← this]
        by_cases hh : z + N < N
        · left; exact Int.emod_eq_of_lt (by omega) hh
        · omega
      rcases e3 with e3 | e3 <;> rw [e3] <;> split <;> omega
    · split <;> omega
theorem dst_mul {N f : Int} (h : 0 < N) (hf : 0 < f) (y : Int) : dst (f * N) (f * y) = f * dst N y := by
  unfold dst
  rw [Int.mul_emod_mul_of_pos _ _ hf, ← Int.mul_sub]
  by_cases hh : N - y % N < y % N
  · rw [if_pos hh, if_pos (Int.mul_lt_mul_of_pos_left hh hf)]
  · rw [if_neg hh, if_neg (fun z => hh (Int.lt_of_mul_lt_mul_left z (Int.le_of_lt hf)))]
/-- the way from x to y, signed -/
theorem ar_ex {W : Int} (h : 0 < W) (x y : Int) : ∃ a k : Int, y = x + a + k * W ∧ -W ≤ 2 * a ∧ 2 * a < W ∧ (-dst W (x - y) ≤ a ∧ a ≤ dst W (x - y)) := by
  have hm := mod_b (a := x - y) h
  have e := Int.emod_add_mul_ediv (x - y) W
  have ec : W * ((x - y) / W) = (x - y) / W * W := Int.mul_comm _ _
  unfold dst
  by_cases hh : W - (x - y) % W < (x - y) % W
  · refine ⟨W - (x - y) % W, -((x - y) / W) - 1, ?_, by omega, by omega, ?_⟩
    · rw [Int.sub_mul, Int.neg_mul]; omega
    · rw [if_pos hh]; omega
  · refine ⟨-((x - y) % W), -((x - y) / W), ?_, by omega, by omega, ?_⟩
    · rw [Int.neg_mul]; omega
    · rw [if_neg hh]; omega
/-! ### tents -/
abbrev Tent := Int × Int
def tnD (t : Tent) : D := .tup [.int t.1, .int t.2]
def hAt (N : Int) (t : Tent) (x : Int) : Int := t.1 - dst N (x - t.2)
def lowH (N : Int) (ts : List Tent) (x : Int) : Int := minI (ts.map fun t => hAt N t x)
theorem lowH_le {N : Int} {ts : List Tent} (h : ts ≠ []) (x : Int) : ∀ t ∈ ts, lowH N ts x ≤ hAt N t x := fun t ht =>
  (minI_ok (ns := ts.map fun t => hAt N t x) (by simpa using List.length_pos_iff.mpr h)).2 _ (List.mem_map.mpr ⟨t, ht, rfl⟩)
theorem lowH_ex {N : Int} {ts : List Tent} (h : ts ≠ []) (x : Int) : ∃ t ∈ ts, lowH N ts x = hAt N t x := by
  obtain ⟨t, ht, e⟩ := List.mem_map.mp (minI_ok (ns := ts.map fun t => hAt N t x) (by simpa using List.length_pos_iff.mpr h)).1
  exact ⟨t, ht, e.symm⟩
def cross1 (N : Int) (a b : Tent) : Int := (a.2 + (a.1 - b.1 + (b.2 - a.2) % N).fdiv 2) % N
def crs (N : Int) (ts : List Tent) : List Int := ts.map (·.2) ++ ts.flatMap fun a => ts.map fun b => cross1 N a b
theorem even_mod {a N : Int} (ha : a % 2 = 0) (hN : N % 2 = 0) : a % N % 2 = 0 := by
  have e := Int.emod_add_mul_ediv a N
  have : (N * (a / N)) % 2 = 0 := by rw [Int.mul_emod, hN]; simp
  omega
theorem tents_top {N : Int} (hN : 0 < N) (hE : N % 2 = 0) {ts : List Tent} (h0 : ts ≠ []) (h2 : ∀ t ∈ ts, t.1 % 2 = 0 ∧ t.2 % 2 = 0) {f : Int} (hf : 0 < f) {x M : Int} (hx : ∀ t ∈ ts, M ≤ f * t.1 - dst (f * N) (x - f * t.2)) :
    ∃ s ∈ crs N ts, ∀ t ∈ ts, M ≤ f * hAt N t s := by
  have hW : 0 < f * N := Int.mul_pos hf hN
  have hA : ∀ t : Tent, ∃ a k : Int, f * t.2 = x + a + k * (f * N) ∧ -(f * N) ≤ 2 * a ∧ 2 * a < f * N ∧ (-dst (f * N) (x - f * t.2) ≤ a ∧ a ≤ dst (f * N) (x - f * t.2)) := fun t => ar_ex hW x (f * t.2)
  obtain ⟨A, hA⟩ := Classical.axiomOfChoice hA
  obtain ⟨ti, hi, mi⟩ := exists_min (fun t : Tent => A t + (f * t.1 - M)) ts h0
  obtain ⟨tj, hj, mj⟩ := exists_min (fun t : Tent => (f * t.1 - M) - A t) ts h0
  obtain ⟨ki, ei, bi1, bi2, ri1, ri2⟩ := hA ti
  obtain ⟨kj, ej, bj1, bj2, rj1, rj2⟩ := hA tj
  have xi := hx ti hi
  have xj := hx tj hj
  have q1 := mi tj hj
  have q2 := mj ti hi
  have d0 : 0 ≤ A tj - A ti := by omega
  have d1 : A tj - A ti < f * N := by omega
  have ew : f * ((tj.2 - ti.2) % N) = A tj - A ti := by
    rw [← Int.mul_emod_mul_of_pos _ _ hf, Int.mul_sub, ei, ej]
    have : x + A tj + kj * (f * N) - (x + A ti + ki * (f * N)) = (A tj - A ti) + (kj - ki) * (f * N) := by rw [Int.sub_mul]; omega
    rw [this, Int.add_mul_emod_self_right, Int.emod_eq_of_lt d0 d1]
  obtain ⟨w, hw⟩ : ∃ w, (tj.2 - ti.2) % N = w := ⟨_, rfl⟩
  have wE : w % 2 = 0 := by rw [← hw]; exact even_mod (by have := h2 ti hi; have := h2 tj hj; omega) hE
  obtain ⟨q, hq⟩ : ∃ q, ti.1 - tj.1 + w = 2 * q := ⟨(ti.1 - tj.1 + w) / 2, by have := h2 ti hi; have := h2 tj hj; omega⟩
  have eq1 : (ti.1 - tj.1 + w).fdiv 2 = q := by rw [hq, Int.fdiv_eq_ediv_of_nonneg _ (by omega)]; omega
  refine ⟨cross1 N ti tj, ?_, fun t ht => ?_⟩
  · unfold crs
    exact List.mem_append_right _ (List.mem_flatMap.mpr ⟨ti, hi, List.mem_map.mpr ⟨tj, hj, rfl⟩⟩)
  · obtain ⟨kt, et, bt1, bt2, rt1, rt2⟩ := hA t
    have xt := hx t ht
    have q3 := mi t ht
    have q4 := mj t ht
    rw [hw] at ew
    have hfq : 2 * (f * q) = f * ti.1 - f * tj.1 + f * w := by
      rw [← Int.mul_sub, ← Int.mul_add, hq, ← Int.mul_assoc, ← Int.mul_assoc, Int.mul_comm 2 f]
    unfold hAt
    have hs : cross1 N ti tj = (ti.2 + q) % N := by unfold cross1; rw [hw, eq1]
    rw [hs]
    have eN := Int.emod_add_mul_ediv (ti.2 + q) N
    obtain ⟨p, hp⟩ : ∃ p, (ti.2 + q) / N = p := ⟨_, rfl⟩
    rw [hp] at eN
    have fe : f * ((ti.2 + q) % N) = f * ti.2 + f * q - p * (f * N) := by
      have : (ti.2 + q) % N = ti.2 + q - N * p := by omega
      rw [this, Int.mul_sub, Int.mul_add]
      have : f * (N * p) = p * (f * N) := by rw [← Int.mul_assoc, Int.mul_comm]
      omega
    have key : f * dst N ((ti.2 + q) % N - t.2) ≤ f * t.1 - M := by
      rw [← dst_mul hN hf]
      refine dst_le hW (z := A ti + f * q - A t) (k := ki - kt - p) ?_ (by omega) (by omega)
      rw [Int.mul_sub, fe, ei, et, Int.sub_mul, Int.sub_mul]
      omega
    rw [Int.mul_sub]
    omega
/-! ### the functions of tents -/
theorem gMinL_ints {xs : List Int} (h : xs ≠ []) (m : Mu) : gMinL [.lst (xs.map .int)] m = .ok (.int (minI xs)) m := by
  cases xs with
  | nil => exact absurd rfl h
  | cons x xs => simp [gMinL, toIs, show toIs (xs.map D.int) = some xs from by simpa using toIs_map (fun x => x) xs]
theorem sum_const {α : Type} (k : Nat) : ∀ xs : List α, (xs.map fun _ => k).sum = xs.length * k
  | [] => by simp
  | x :: xs => by simp [sum_const k xs, Nat.succ_mul]; omega
theorem crs_ne {N : Int} {ts : List Tent} (h : ts ≠ []) : crs N ts ≠ [] := by
  cases ts with
  | nil => exact absurd rfl h
  | cons t ts => simp [crs]
/-! ### the grid -/
def cbot (qs : List Rat) : Nat := qs.foldl (fun a q => Nat.lcm a q.den) 1
theorem cbot_dvd_of {B : Nat} : ∀ (qs : List Rat) (a : Nat), a ∣ B → (∀ q ∈ qs, q.den ∣ B) → qs.foldl (fun a q => Nat.lcm a q.den) a ∣ B
  | [], _, h, _ => h
  | q :: qs, a, h, hq => cbot_dvd_of qs _ (Nat.lcm_dvd h (hq q (by simp))) fun x hx => hq x (by simp [hx])
theorem dvd_foldl : ∀ (qs : List Rat) (a : Nat), a ∣ qs.foldl (fun a q => Nat.lcm a q.den) a
  | [], a => Nat.dvd_refl a
  | q :: qs, a => Nat.dvd_trans (Nat.dvd_lcm_left a q.den) (dvd_foldl qs _)
theorem den_dvd_foldl : ∀ (qs : List Rat) (a : Nat), ∀ q ∈ qs, q.den ∣ qs.foldl (fun a q => Nat.lcm a q.den) a
  | p :: qs, a, q, h => by
    rcases List.mem_cons.mp h with e | e
    · subst e; exact Nat.dvd_trans (Nat.dvd_lcm_right a q.den) (dvd_foldl qs _)
    · exact den_dvd_foldl qs _ q e
theorem den_dvd_cbot (qs : List Rat) : ∀ q ∈ qs, q.den ∣ cbot qs := den_dvd_foldl qs 1
theorem cbot_dvd {B : Nat} {qs : List Rat} (h : ∀ q ∈ qs, q.den ∣ B) : cbot qs ∣ B := cbot_dvd_of qs 1 (Nat.one_dvd B) h
theorem cbot_pos (qs : List Rat) : 0 < cbot qs := by
  have h : ∀ (qs : List Rat) (a : Nat), 0 < a → 0 < qs.foldl (fun a q => Nat.lcm a q.den) a := fun qs => by
    induction qs with
    | nil => intro a h; exact h
    | cons q qs ih => intro a h; exact ih _ (Nat.lcm_pos h q.den_pos)
  exact h qs 1 (by decide)
def unt (q : Rat) (N : Int) : Int := (q.num * N).fdiv q.den
def prD (c : Cs) (p : Rat × Rat) : D := .tup [rat c p.1, rat c p.2]
def prs (ps : List (Rat × Rat)) : List Rat := ps.flatMap fun p => [p.1, p.2]
theorem prs_len : ∀ ps : List (Rat × Rat), (prs ps).length = 2 * ps.length
  | [] => rfl
  | p :: ps => by
    have := prs_len ps
    simp only [prs, List.flatMap_cons, List.length_append, List.length_cons, List.length_nil] at this ⊢
    omega
theorem lc2_pairs (c : Cs) (m0 : Mu) (x y : Option D) : ∀ (ps : List (Rat × Rat)) (acc : List D), acc.length + 2 * ps.length < 16777216 →
    dLc2 m0.length (dName 3) dYes (dItT (dVar 3)) (dName 4) dYes (dVar 4) [4] [x, y, none, none, none, none, none] (ps.map (prD c)) (m0 ++ [.lst acc]) = .ok () (m0 ++ [.lst (acc ++ (prs ps).map (rat c))])
  | [], acc, _ => by simp [dLc2, prs]
  | p :: ps, acc, h => by
    have hz : sizeLine = 16777216 := rfl
    have h1 : acc.length < 16777216 := by simp at h; omega
    have h2 : acc.length + 1 < 16777216 := by simp at h; omega
    have ih := lc2_pairs c m0 x y ps (acc ++ [rat c p.1, rat c p.2]) (by simp at h ⊢; omega)
    rw [List.map_cons, dLc2.eq_def]
    simp [prD, dLc1, hz, h1, h2, ih, prs]
def gridT (N : Int) (ps : List (Rat × Rat)) : List Tent := ps.map fun p => (unt p.1 N, (-unt p.2 N) % N)
theorem tnDs_below (n : Nat) : ∀ ts : List Tent, belows n (ts.map tnD) = true
  | [] => rfl
  | t :: ts => by simp [belows, below, tnD, tnDs_below n ts]
/-! ### the reach of a street of whole numbers of parts -/
theorem divInt_mul_den {q : Rat} {S P : Int} (hP : P ≠ 0) (e : q = Rat.divInt S P) : q.num * P = S * q.den := by
  have h : Rat.divInt q.num q.den = Rat.divInt S P := by rw [Rat.num_divInt_den]; exact e
  exact (Rat.divInt_eq_divInt_iff (dne q) hP).mp h
theorem unt_scale {q : Rat} {S P f : Int} {M : Nat} (hf : 0 < f) (hM : 0 < M) (hP : P = f * M) (e : q = Rat.divInt S P) (hd : q.den ∣ M) : f * unt q (2 * M) = 2 * S ∧ unt q (2 * M) % 2 = 0 := by
  obtain ⟨t, rfl⟩ := hd
  have hP0 : P ≠ 0 := by rw [hP]; exact Int.mul_ne_zero (by omega) (by omega)
  have h := divInt_mul_den hP0 e
  have hden := dpos q
  have e1 : unt q (2 * ((q.den * t : Nat) : Int)) = q.num * t * 2 := by
    unfold unt
    have : q.num * (2 * ((q.den * t : Nat) : Int)) = (q.num * t * 2) * q.den := by rw [Int.natCast_mul]; grind
    rw [this, Int.fdiv_eq_ediv_of_nonneg _ (by omega), Int.mul_ediv_cancel _ (by omega)]
  rw [e1]
  refine ⟨?_, by omega⟩
  have h2 : q.num * (f * t) = S := by
    have : q.num * (f * t) * q.den = S * q.den := by rw [← h, hP, Int.natCast_mul]; grind
    exact Int.eq_of_mul_eq_mul_right (by omega) this
  rw [← h2]; grind
theorem den_dvd {q : Rat} {S : Int} {P : Nat} (hP : 0 < P) (e : q = Rat.divInt S P) : q.den ∣ P := by
  have h := divInt_mul_den (P := P) (by omega) e
  have h2 : (q.den : Int) ∣ q.num * P := ⟨S, by rw [h, Int.mul_comm]⟩
  have h3 : q.den ∣ q.num.natAbs * P := by
    have := Int.natAbs_dvd_natAbs.mpr h2
    rwa [Int.natAbs_mul, Int.natAbs_natCast, Int.natAbs_natCast] at this
  exact (Nat.Coprime.dvd_of_dvd_mul_left (Nat.Coprime.symm q.reduced) h3)
/-- the tents' top upon a ring of 2 P -/
structure Tops (S T : Lt → Int) (P : Int) (ls : List Lt) (R : Int) : Prop where
  le : ∀ x M : Int, (∀ l ∈ ls, M ≤ 2 * S l - dst (2 * P) (x + 2 * T l)) → M ≤ R
  at_ : ∃ x : Int, ∀ l ∈ ls, R ≤ 2 * S l - dst (2 * P) (x + 2 * T l)
theorem dst_half {N : Int} (h : 0 < N) (a : Int) : 2 * dst N a ≤ N := by
  unfold dst; have := mod_b (a := a) h; split <;> omega
theorem dst_mod {N : Int} (a b : Int) (h : a % N = b % N) : dst N a = dst N b := by unfold dst; rw [h]
theorem tents_of {S T : Lt → Int} {P : Nat} (hP : 0 < P) {ls : List Lt} (hne : ls ≠ []) (hS : ∀ l ∈ ls, l.s = Rat.divInt (S l) P) (hT : ∀ l ∈ ls, l.o + l.b = Rat.divInt (T l) P) {M : Nat} (hM : M = cbot (prs (ls.map fun l => (l.s, l.o + l.b)))) {s : Int}
    (hs : s ∈ crs (2 * M) (gridT (2 * M) (ls.map fun l => (l.s, l.o + l.b)))) (hq : ∀ y ∈ crs (2 * M) (gridT (2 * M) (ls.map fun l => (l.s, l.o + l.b))), lowH (2 * M) (gridT (2 * M) (ls.map fun l => (l.s, l.o + l.b))) y ≤ lowH (2 * M) (gridT (2 * M) (ls.map fun l => (l.s, l.o + l.b))) s) :
    ∃ R f : Int, 0 < f ∧ (P : Int) = f * M ∧ R = f * lowH (2 * M) (gridT (2 * M) (ls.map fun l => (l.s, l.o + l.b))) s ∧ Tops S T P ls R := by
  have hdv : ∀ q ∈ prs (ls.map fun l => (l.s, l.o + l.b)), q.den ∣ P := fun q hq => by
    unfold prs at hq
    rw [List.mem_flatMap] at hq
    obtain ⟨p, hp, hq⟩ := hq
    obtain ⟨l, hl, rfl⟩ := List.mem_map.mp hp
    simp at hq
    rcases hq with rfl | rfl
    · exact den_dvd hP (hS l hl)
    · exact den_dvd hP (hT l hl)
  have hMP : M ∣ P := by rw [hM]; exact cbot_dvd hdv
  have hM0 : 0 < M := by rw [hM]; exact cbot_pos _
  obtain ⟨f0, hf0⟩ := hMP
  have hf : 0 < (f0 : Int) := by
    have : 0 < f0 := Nat.pos_of_ne_zero fun z => by subst z; simp at hf0; omega
    omega
  obtain ⟨f, hff⟩ : ∃ f : Int, (f0 : Int) = f := ⟨_, rfl⟩
  have hPf : (P : Int) = f * M := by rw [hf0, Int.natCast_mul, hff, Int.mul_comm]
  rw [hff] at hf
  clear hff hf0 f0
  have hmem : ∀ l ∈ ls, l.s.den ∣ M ∧ (l.o + l.b).den ∣ M := fun l hl => by
    have h1 : l.s ∈ prs (ls.map fun l => (l.s, l.o + l.b)) := by unfold prs; rw [List.mem_flatMap]; exact ⟨(l.s, l.o + l.b), List.mem_map.mpr ⟨l, hl, rfl⟩, by simp⟩
    have h2 : l.o + l.b ∈ prs (ls.map fun l => (l.s, l.o + l.b)) := by unfold prs; rw [List.mem_flatMap]; exact ⟨(l.s, l.o + l.b), List.mem_map.mpr ⟨l, hl, rfl⟩, by simp⟩
    rw [hM]
    exact ⟨den_dvd_cbot _ _ h1, den_dvd_cbot _ _ h2⟩
  obtain ⟨ts, hts⟩ : ∃ ts, gridT (2 * M) (ls.map fun l => (l.s, l.o + l.b)) = ts := ⟨_, rfl⟩
  rw [hts] at hs hq ⊢
  have htm : ∀ t, t ∈ ts ↔ ∃ l ∈ ls, t = (unt l.s (2 * M), (-unt (l.o + l.b) (2 * M)) % (2 * M)) := fun t => by
    rw [← hts]; unfold gridT; rw [List.mem_map]
    constructor
    · rintro ⟨p, hp, rfl⟩
      obtain ⟨l, hl, rfl⟩ := List.mem_map.mp hp
      exact ⟨l, hl, rfl⟩
    · rintro ⟨l, hl, rfl⟩
      exact ⟨_, List.mem_map.mpr ⟨l, hl, rfl⟩, rfl⟩
  have htn : ts ≠ [] := by
    obtain ⟨l, hl⟩ := List.exists_mem_of_ne_nil _ hne
    exact List.ne_nil_of_mem ((htm _).mpr ⟨l, hl, rfl⟩)
  have hN : (0 : Int) < 2 * M := by omega
  have sc : ∀ l ∈ ls, f * unt l.s (2 * M) = 2 * S l ∧ unt l.s (2 * M) % 2 = 0 ∧ f * unt (l.o + l.b) (2 * M) = 2 * T l ∧ unt (l.o + l.b) (2 * M) % 2 = 0 := fun l hl => by
    obtain ⟨h1, h2⟩ := unt_scale hf hM0 hPf (hS l hl) (hmem l hl).1
    obtain ⟨h3, h4⟩ := unt_scale hf hM0 hPf (hT l hl) (hmem l hl).2
    exact ⟨h1, h2, h3, h4⟩
  have W2 : f * (2 * (M : Int)) = 2 * P := by rw [hPf]; grind
  have hW : (0 : Int) < 2 * P := by omega
  -- the ring's points
  have hd : ∀ l ∈ ls, ∀ x : Int, dst (2 * P) (x - f * ((-unt (l.o + l.b) (2 * M)) % (2 * M))) = dst (2 * P) (x + 2 * T l) := fun l hl x => by
    apply dst_mod
    rw [← Int.mul_emod_mul_of_pos _ _ hf, W2, Int.mul_neg, (sc l hl).2.2.1]
    have e := Int.emod_add_mul_ediv (-(2 * T l)) (2 * P)
    obtain ⟨p, hp⟩ : ∃ p, -(2 * T l) / (2 * (P : Int)) = p := ⟨_, rfl⟩
    rw [hp] at e
    have : x - -(2 * T l) % (2 * (P : Int)) = (x + 2 * T l) + (2 * P) * p := by omega
    rw [this, Int.add_mul_emod_self_left]
  refine ⟨_, f, hf, hPf, rfl, ?_, ?_⟩
  · intro x Mx hx
    obtain ⟨y, hy, hy2⟩ := tents_top (N := 2 * M) hN (by omega) htn (fun t ht => by
      obtain ⟨l, hl, rfl⟩ := (htm t).mp ht
      exact ⟨(sc l hl).2.1, even_mod (by have := (sc l hl).2.2.2; omega) (by omega)⟩) hf (x := x) (M := Mx) (fun t ht => by
      obtain ⟨l, hl, rfl⟩ := (htm t).mp ht
      have := hx l hl
      rw [W2, (sc l hl).1, hd l hl]
      exact this)
    obtain ⟨t, ht, e⟩ := lowH_ex (N := 2 * M) htn y
    have h1 := hy2 t ht
    rw [← e] at h1
    have h2 := Int.mul_le_mul_of_nonneg_left (hq y hy) (Int.le_of_lt hf)
    omega
  · refine ⟨f * s, fun l hl => ?_⟩
    have h1 := lowH_le (N := 2 * M) htn s _ ((htm _).mpr ⟨l, hl, rfl⟩)
    have h2 := Int.mul_le_mul_of_nonneg_left h1 (Int.le_of_lt hf)
    unfold hAt at h2
    rw [Int.mul_sub, ← dst_mul hN hf, W2, Int.mul_sub, (sc l hl).1, hd l hl] at h2
    exact h2
theorem Tops.bd {S T : Lt → Int} {P : Nat} (hP : 0 < P) {ls : List Lt} {R : Int} (h : Tops S T P ls R) (h0 : ∀ l ∈ ls, 0 ≤ S l) : -(P : Int) ≤ R ∧ ∀ l ∈ ls, R ≤ 2 * S l := by
  refine ⟨h.le 0 _ fun l hl => ?_, fun l hl => ?_⟩
  · have := dst_half (N := 2 * P) (by omega) (0 + 2 * T l)
    have := h0 l hl
    omega
  · obtain ⟨x, hx⟩ := h.at_
    have := dst_nn (N := 2 * P) (by omega) (x + 2 * T l)
    have := hx l hl
    omega
@[simp] theorem ix_row0 (r : Row) (m : Mu) : gIx (rowD r) (.int 0) m = .ok (.str r.nm) m := rfl
@[simp] theorem ix_row1 (r : Row) (m : Mu) : gIx (rowD r) (.int 1) m = .ok (.int r.s) m := rfl
@[simp] theorem ix_row2 (r : Row) (m : Mu) : gIx (rowD r) (.int 2) m = .ok (.int r.o) m := rfl
@[simp] theorem ix_row3 (r : Row) (m : Mu) : gIx (rowD r) (.int 3) m = .ok (.int r.b) m := rfl
/-- a loop that ends at the first item that answers -/
theorem loop_find {α : Type} {g : DG} {b : DS} {F : α → D} {m : Mu} (p : α → Bool) (v : D) (I : En → Prop) : ∀ (xs : List α) (e : En), (∀ a ∈ xs, ∀ e, I e → ∃ e1, g (F a) e = some e1 ∧ (p a = true → b e1 m = .rt v m) ∧ (p a = false → ∃ e2, b e1 m = .nx e2 m ∧ I e2)) → I e →
    (xs.any p = true ∧ dLoop g b (xs.map F) e m = .rt v m) ∨ (xs.any p = false ∧ ∃ e2, dLoop g b (xs.map F) e m = .nx e2 m ∧ I e2)
  | [], e, _, h => .inr ⟨rfl, e, rfl, h⟩
  | x :: xs, e, hs, h => by
    obtain ⟨e1, h1, h2, h3⟩ := hs x (by simp) e h
    cases hp : p x with
    | true =>
      refine .inl ⟨by simp [hp], ?_⟩
      rw [List.map_cons, dLoop.eq_def]
      simp only [h1, h2 hp]
    | false =>
      obtain ⟨e2, k1, k2⟩ := h3 hp
      rcases loop_find p v I xs e2 (fun a ha => hs a (by simp [ha])) k2 with ⟨z1, z2⟩ | ⟨z1, z2⟩
      · exact .inl ⟨by simp [hp, z1], by rw [List.map_cons, dLoop_step h1 k1]; exact z2⟩
      · exact .inr ⟨by simp [hp, z1], by rw [List.map_cons, dLoop_step h1 k1]; exact z2⟩
theorem rngD_map (n : Nat) : rngD 0 n = (List.range n).map fun k : Nat => D.int k := by simp [rngD]
theorem dst_neg {W : Int} (h : 0 < W) (y : Int) : dst W (-y) = dst W y := by
  have m := mod_b (a := y) h
  have e := Int.emod_add_mul_ediv y W
  unfold dst
  by_cases hz : y % W = 0
  · have : (-y) % W = 0 := by
      rw [show -y = 0 + W * (-(y / W)) from by rw [Int.mul_neg]; omega, Int.add_mul_emod_self_left]; simp
    rw [this, hz]
  · have : (-y) % W = W - y % W := by
      rw [show -y = (W - y % W) + W * (-(y / W) - 1) from by rw [Int.mul_sub, Int.mul_neg]; omega, Int.add_mul_emod_self_left, Int.emod_eq_of_lt (by omega) (by omega)]
    rw [this]
    split <;> split <;> omega
/-- two arcs in a third one -/
theorem two_arcs {W : Int} (hW : 0 < W) {a b u w v : Int} (hu : 0 ≤ u) (hw : 0 ≤ w) (hv : v < W) :
    (∃ s : Int, (0 ≤ s ∧ s < W) ∧ (a - s) % W + 2 * u ≤ v ∧ (b - s) % W + 2 * w ≤ v) ↔ (2 * u ≤ v ∧ 2 * w ≤ v ∧ dst W (a - b + u - w) ≤ v - u - w) := by
  constructor
  · rintro ⟨s, ⟨s0, s1⟩, h1, h2⟩
    have m1 := mod_b (a := a - s) hW
    have m2 := mod_b (a := b - s) hW
    have e1 := Int.emod_add_mul_ediv (a - s) W
    have e2 := Int.emod_add_mul_ediv (b - s) W
    refine ⟨by omega, by omega, ?_⟩
    refine dst_le hW (z := (a - s) % W - (b - s) % W + u - w) (k := (a - s) / W - (b - s) / W) ?_ (by omega) (by omega)
    have c1 : W * ((a - s) / W) = (a - s) / W * W := Int.mul_comm _ _
    have c2 : W * ((b - s) / W) = (b - s) / W * W := Int.mul_comm _ _
    rw [Int.sub_mul]; omega
  · rintro ⟨h1, h2, h3⟩
    obtain ⟨z, k, e, _, _, b1, b2⟩ := ar_ex hW 0 (a - b + u - w)
    have hd : dst W (0 - (a - b + u - w)) = dst W (a - b + u - w) := by rw [Int.zero_sub]; exact dst_neg hW _
    rw [hd] at b1 b2
    -- where the third begins
    have key : ∀ d1 d2 : Int, 0 ≤ d1 → 0 ≤ d2 → d1 + 2 * u ≤ v → d2 + 2 * w ≤ v → d1 + u - d2 - w = z → ∃ s : Int, (0 ≤ s ∧ s < W) ∧ (a - s) % W + 2 * u ≤ v ∧ (b - s) % W + 2 * w ≤ v := fun d1 d2 q1 q2 q3 q4 q5 => by
      have ms := mod_b (a := a - d1) hW
      have es := Int.emod_add_mul_ediv (a - d1) W
      refine ⟨(a - d1) % W, ms, ?_, ?_⟩
      · have : a - (a - d1) % W = d1 + W * ((a - d1) / W) := by omega
        rw [this, Int.add_mul_emod_self_left, Int.emod_eq_of_lt q1 (by omega)]; exact q3
      · have : b - (a - d1) % W = d2 + W * ((a - d1) / W - k) := by
          rw [Int.mul_sub, Int.mul_comm W k]; omega
        rw [this, Int.add_mul_emod_self_left, Int.emod_eq_of_lt q2 (by omega)]; exact q4
    by_cases hz : u - w ≤ z
    · exact key (z - u + w) 0 (by omega) (by omega) (by omega) (by omega) (by omega)
    · exact key 0 (u - w - z) (by omega) (by omega) (by omega) (by omega) (by omega)
theorem dSeq_nx {t u : DS} {e e1 : En} {m m1 : Mu} (h : t e m = .nx e1 m1) : dSeq t u e m = u e1 m1 := by
  unfold dSeq; rw [h]
theorem dst_way {n : Int} (h : 0 < n) (a : Int) : (if a % n * 2 ≤ n then a % n else n - a % n) = dst n a := by
  unfold dst; split <;> split <;> omega
theorem gMaxL_ints {xs : List Int} (h : xs ≠ []) (m : Mu) : gMaxL [.lst (xs.map .int)] m = .ok (.int (maxI xs)) m := by
  cases xs with
  | nil => exact absurd rfl h
  | cons x xs => simp [gMaxL, toIs, show toIs (xs.map D.int) = some xs from by simpa using toIs_map (fun x => x) xs]
/-- the least room of rows at a spot, in halves of parts -/
def lw (P : Int) (rs : List Row) (x : Int) : Int := minI (rs.map fun r => 2 * r.s - dst (2 * P) (x + 2 * (r.o + r.b)))
theorem lw_le {P : Int} {rs : List Row} (h : rs ≠ []) (x : Int) : ∀ r ∈ rs, lw P rs x ≤ 2 * r.s - dst (2 * P) (x + 2 * (r.o + r.b)) := fun r hr =>
  (minI_ok (ns := rs.map fun r => 2 * r.s - dst (2 * P) (x + 2 * (r.o + r.b))) (by simpa using List.length_pos_iff.mpr h)).2 _ (List.mem_map.mpr ⟨r, hr, rfl⟩)
theorem lw_ex {P : Int} {rs : List Row} (h : rs ≠ []) (x : Int) : ∃ r ∈ rs, lw P rs x = 2 * r.s - dst (2 * P) (x + 2 * (r.o + r.b)) := by
  obtain ⟨r, hr, e⟩ := List.mem_map.mp (minI_ok (ns := rs.map fun r => 2 * r.s - dst (2 * P) (x + 2 * (r.o + r.b))) (by simpa using List.length_pos_iff.mpr h)).1
  exact ⟨r, hr, e.symm⟩
theorem reach_same {P R : Int} (hP : 0 < P) {rs : List Row} (h0 : rs ≠ []) (h1 : ∀ x M : Int, (∀ r ∈ rs, M ≤ 2 * r.s - dst (2 * P) (x + 2 * (r.o + r.b))) → M ≤ R) (h2 : ∃ x : Int, ∀ r ∈ rs, R ≤ 2 * r.s - dst (2 * P) (x + 2 * (r.o + r.b))) :
    maxI ((List.range (2 * P).toNat).map fun k : Nat => lw P rs k) = R := by
  obtain ⟨m1, m2⟩ := maxI_ok (ns := (List.range (2 * P).toNat).map fun k : Nat => lw P rs k) (by simp; omega)
  apply Int.le_antisymm
  · obtain ⟨k, hk, e⟩ := List.mem_map.mp m1
    rw [← e]
    exact h1 k _ fun r hr => lw_le h0 k r hr
  · obtain ⟨x, hx⟩ := h2
    have mx := mod_b (a := x) (n := 2 * P) (by omega)
    have := m2 (lw P rs ((x % (2 * P)).toNat : Nat)) (List.mem_map.mpr ⟨(x % (2 * P)).toNat, List.mem_range.mpr (by omega), rfl⟩)
    have e : (((x % (2 * P)).toNat : Nat) : Int) = x % (2 * P) := by omega
    rw [e] at this
    refine Int.le_trans ?_ this
    obtain ⟨r, hr, e2⟩ := lw_ex (P := P) h0 (x % (2 * P))
    rw [e2]
    have := hx r hr
    have ed := Int.emod_add_mul_ediv x (2 * P)
    have : dst (2 * P) (x % (2 * P) + 2 * (r.o + r.b)) = dst (2 * P) (x + 2 * (r.o + r.b)) := by
      apply dst_mod
      rw [show x + 2 * (r.o + r.b) = (x % (2 * P) + 2 * (r.o + r.b)) + (2 * P) * (x / (2 * P)) from by omega, Int.add_mul_emod_self_left]
    omega
/-! ### rows of any trips -/
structure RowG (P : Int) (r : Row) : Prop where
  nm : Good r.nm
  s0 : 0 < r.s
  s1 : r.s < P
  o0 : 0 ≤ r.o
  o1 : r.o ≤ 20000
  b0 : 0 ≤ r.b
  b1 : r.b ≤ 20000
theorem RowOk.g {P : Int} {r : Row} (hP : P ≤ 1000) (h : RowOk P r) : RowG P r := ⟨h.nm, h.s0, h.s1, h.o0, by have := h.o1; omega, h.b0, by have := h.b1; omega⟩
theorem rowLG_ok {P : Int} (hP : 0 < P) (hP2 : P < 1000) {r : Row} (h : RowG P r) : LtOk 20 (rowL P r) := by
  obtain ⟨hn, s0, s1, o0, o1, b0, b1⟩ := h
  exact ⟨hn, sz20 hP (by omega) (by omega) (by omega), sz20 hP (by omega) (by omega) (by omega), sz20 hP (by omega) (by omega) (by omega), q_pos hP s0, q_lt1 hP s1, q_nn hP o0, q_nn hP b0⟩
abbrev rmI (P x : Int) (r : Row) : Int := 2 * r.s - dst (2 * P) (x + 2 * (r.o + r.b))
/-- the top of rows' rooms upon the ring of 2 P -/
structure Top (P : Int) (rs : List Row) (R : Int) : Prop where
  le : ∀ x M : Int, (∀ r ∈ rs, M ≤ rmI P x r) → M ≤ R
  at_ : ∃ x : Int, ∀ r ∈ rs, R ≤ rmI P x r
theorem Top.mono {P : Int} {rs rs' : List Row} {R R' : Int} (h : Top P rs R) (h' : Top P rs' R') (k : ∀ x : Int, ∃ x' : Int, ∀ r' ∈ rs', ∃ r ∈ rs, rmI P x r ≤ rmI P x' r') : R ≤ R' := by
  obtain ⟨x, hx⟩ := h.at_
  obtain ⟨x', hx'⟩ := k x
  refine h'.le x' R fun r' hr' => ?_
  obtain ⟨r, hr, e⟩ := hx' r' hr'
  exact Int.le_trans (hx r hr) e
theorem rmI_mod {P x y : Int} {r r' : Row} {k : Int} (hs : r.s = r'.s) (e : y + 2 * (r'.o + r'.b) = x + 2 * (r.o + r.b) + (2 * P) * k) : rmI P x r = rmI P y r' := by
  show 2 * r.s - dst (2 * P) _ = 2 * r'.s - dst (2 * P) _
  rw [hs, dst_mod (x + 2 * (r.o + r.b)) (y + 2 * (r'.o + r'.b)) (by rw [e, Int.add_mul_emod_self_left])]
/-! ### odd values, errors, tries -/
/-- values that are no ratios -/
def odds : List D := [.non, .bl true, .int 0, .int 1, .int (-3), .str "", .str "A", .str "1/2", .str "a b", .tup [], .lst [], .tup [.int 1, .int 2], .lst [.non], .str "ninesigns", .tup [.str "a"]]
theorem odd_below {d : D} (h : d ∈ odds) (n : Nat) : below n d = true := by
  simp only [odds, List.mem_cons, List.not_mem_nil, or_false] at h
  rcases h with rfl | rfl | rfl | rfl | rfl | rfl | rfl | rfl | rfl | rfl | rfl | rfl | rfl | rfl | rfl <;> rfl
theorem odd_solid {d : D} (h : d ∈ odds) : solid d = true := by
  simp only [odds, List.mem_cons, List.not_mem_nil, or_false] at h
  rcases h with rfl | rfl | rfl | rfl | rfl | rfl | rfl | rfl | rfl | rfl | rfl | rfl | rfl | rfl | rfl <;> rfl
theorem eqX_ref_tup {rows : List (Kl × DFn × List Tg)} {m : Mu} {n : Nat} {xs : List D} (h : ∀ x ∈ xs, solid x = true ∧ eqX rows m n x x = some true) : eqX rows m (n + 1) (.tup xs) (.tup xs) = some true := by
  rw [eqX_tup]
  have : ∀ ys : List D, (∀ x ∈ ys, solid x = true ∧ eqX rows m n x x = some true) → eqXs (eqI (eqX rows m n)) ys ys = some true := by
    intro ys
    induction ys with
    | nil => intro _; rfl
    | cons y ys ih =>
      intro h
      obtain ⟨h1, h2⟩ := h y (by simp)
      unfold eqXs
      unfold eqI
      rw [if_pos ⟨h1, h1⟩, h2]
      simp only [implies_true, if_true]
      exact ih fun x hx => h x (by simp [hx])
  rw [this xs h]
  simp
theorem eqX_ref_lst {rows : List (Kl × DFn × List Tg)} {m : Mu} {n : Nat} {xs : List D} (h : ∀ x ∈ xs, solid x = true ∧ eqX rows m n x x = some true) : eqX rows m (n + 1) (.lst xs) (.lst xs) = some true := by
  have k := eqX_ref_tup h
  rw [eqX_tup] at k
  rw [eqX_lst, if_pos rfl]
  cases hz : eqXs (eqI (eqX rows m n)) xs xs with
  | none => rw [hz] at k; cases k
  | some b => rw [hz] at k; cases b <;> simp_all
theorem eqX_ref_leaf {rows : List (Kl × DFn × List Tg)} {m : Mu} {n : Nat} {d : D} (h : d = .non ∨ (∃ b, d = .bl b) ∨ (∃ i, d = .int i)) : eqX rows m (n + 1) d d = some true := by
  rw [eqX.eq_def]
  rcases h with rfl | ⟨b, rfl⟩ | ⟨b, rfl⟩ <;>
  · simp only [insOf, seqL, seqT, pyOf, thaw1, toPy]
    rw [if_pos (by rfl)]
    simp [PyData.eqv]
theorem eqX_ref_str {rows : List (Kl × DFn × List Tg)} {m : Mu} {n : Nat} {x : Str} (h : SeqAt.shaped (.str x) = true) : eqX rows m (n + 1) (.str x) (.str x) = some true := by
  rw [eqX.eq_def]
  simp only [insOf, seqL, seqT, pyOf, thaw1, toPy]
  rw [if_pos (by rw [h]; rfl)]
  simp [PyData.eqv]
theorem eqX_odd {rows : List (Kl × DFn × List Tg)} {m : Mu} {n : Nat} {d : D} (h : d ∈ odds) : eqX rows m (n + 2) d d = some true := by
  simp only [odds, List.mem_cons, List.not_mem_nil, or_false] at h
  have hs : ∀ x : Str, solid (.str x) = true := fun _ => rfl
  have hi : ∀ x : Int, solid (.int x) = true := fun _ => rfl
  have hn : solid .non = true := rfl
  rcases h with rfl | rfl | rfl | rfl | rfl | rfl | rfl | rfl | rfl | rfl | rfl | rfl | rfl | rfl | rfl
  · exact eqX_ref_leaf (by simp)
  · exact eqX_ref_leaf (by simp)
  · exact eqX_ref_leaf (by simp)
  · exact eqX_ref_leaf (by simp)
  · exact eqX_ref_leaf (by simp)
  · exact eqX_ref_str (by decide +kernel)
  · exact eqX_ref_str (by decide +kernel)
  · exact eqX_ref_str (by decide +kernel)
  · exact eqX_ref_str (by decide +kernel)
  · exact eqX_ref_tup (by simp)
  · exact eqX_ref_lst (by simp)
  · exact eqX_ref_tup (by simp [hi, eqX_ref_leaf])
  · exact eqX_ref_lst (by simp [hn, eqX_ref_leaf])
  · exact eqX_ref_str (by decide +kernel)
  · exact eqX_ref_tup (by simp only [List.mem_cons, List.not_mem_nil, or_false, forall_eq]; exact ⟨rfl, eqX_ref_str (by decide +kernel)⟩)
theorem gNe_py {m : Mu} {x y : D} {p q : PyData} {b : Bool} (hx : pyOf m x = some p) (hy : pyOf m y = some q) (hs : (SeqAt.shaped p && SeqAt.shaped q) = true) (hc : scEq x y = none) (hb : PyData.eqv p q = b) : gNe x y m = .ok (.bl (!b)) m := by
  unfold gNe orD gEqS
  rw [hc]
  simp only [gEqD, hx, hy]
  rw [if_pos hs, hb, Bool.true_xor]
theorem gEq_py {m : Mu} {x y : D} {p q : PyData} {b : Bool} (hx : pyOf m x = some p) (hy : pyOf m y = some q) (hs : (SeqAt.shaped p && SeqAt.shaped q) = true) (hc : scEq x y = none) (hb : PyData.eqv p q = b) : gEq x y m = .ok (.bl b) m := by
  unfold gEq orD gEqS
  rw [hc]
  simp only [gEqD, hx, hy]
  rw [if_pos hs, hb, Bool.false_xor]
theorem fr_inj {q r : Rat} (h : fr q = fr r) : q = r := by
  simp only [fr, D.tup.injEq, List.cons.injEq, D.int.injEq, and_true] at h
  exact Rat.ext h.1 (by omega)
theorem gEq_fr (q r : Rat) (m : Mu) : gEq (fr q) (fr r) m = .ok (.bl (decide (q = r))) m := by
  have : PyData.eqv (.tuple [.int q.num, .int q.den]) (.tuple [.int r.num, .int r.den]) = decide (q = r) := by
    have h : (q = r) ↔ q.num = r.num ∧ q.den = r.den := ⟨fun e => by rw [e]; exact ⟨rfl, rfl⟩, fun h => Rat.ext h.1 h.2⟩
    by_cases h1 : q.num = r.num
    · by_cases h2 : q.den = r.den
      · simp [PyData.eqv, PyData.eqvAll, h, h1, h2]
      · have h3 : ¬ (q.den : Int) = r.den := by omega
        simp [PyData.eqv, PyData.eqvAll, h, h1, h2, h3]
    · simp [PyData.eqv, PyData.eqvAll, h, h1]
  exact gEq_py rfl rfl rfl rfl this
@[simp] theorem tru_rat (c : Cs) (q : Rat) (m : Mu) : dTru m (rat c q) = none := rfl
/-- more memory behind the old one -/
structure Grew (m m' : Mu) : Prop where
  ex : ∃ t, m' = m ++ t
  cl : Cl m'
theorem Grew.refl {m : Mu} (h : Cl m) : Grew m m := ⟨⟨[], by simp⟩, h⟩
theorem Grew.trans {m m1 m2 : Mu} (h : Grew m m1) (k : Grew m1 m2) : Grew m m2 := by
  obtain ⟨t, rfl⟩ := h.ex
  obtain ⟨u, rfl⟩ := k.ex
  exact ⟨⟨t ++ u, by simp⟩, k.cl⟩
theorem Grew.len {m m' : Mu} (h : Grew m m') : m.length ≤ m'.length := by obtain ⟨t, rfl⟩ := h.ex; simp
theorem Grew.get {m m' : Mu} (h : Grew m m') {n : Nat} {o : Mo} (e : m[n]? = some o) : m'[n]? = some o := by
  obtain ⟨t, rfl⟩ := h.ex
  rw [List.getElem?_append_left]
  · exact e
  · exact (List.getElem?_eq_some_iff.mp e).1
theorem Grew.bag {m m' : Mu} (h : Grew m m') (b : BagOk m) : BagOk m' := by
  obtain ⟨o, ho, hb⟩ := b.ex
  exact ⟨⟨o, h.get ho, hb⟩⟩
theorem Grew.one {m : Mu} {o : Mo} (h : Cl (m ++ [o])) : Grew m (m ++ [o]) := ⟨⟨[o], rfl⟩, h⟩
theorem compL_grew {g : DG} {b : DE} {e : En} {m0 : Mu} : ∀ (ps : List (D × D)) (acc : List D) (m : Mu), Grew m0 m → (∀ p ∈ ps, ∃ e1, g p.1 e = some e1 ∧ ∀ m, Grew m0 m → ∃ m1, b e1 m = .ok p.2 m1 ∧ Grew m m1) → acc.length + ps.length ≤ 10000 →
    ∃ m', dCompL g dYes b e (ps.map (·.1)) m acc = .ok (acc ++ ps.map (·.2)) m' ∧ Grew m m'
  | [], acc, m, hg, _, _ => ⟨m, by simp [dCompL], .refl hg.cl⟩
  | p :: ps, acc, m, hg, h, hl => by
    have hz : sizeLine = 16777216 := rfl
    obtain ⟨e1, h1, h2⟩ := h p (by simp)
    obtain ⟨m1, h3, g1⟩ := h2 m hg
    obtain ⟨m2, h4, g2⟩ := compL_grew ps (acc ++ [p.2]) m1 (hg.trans g1) (fun q hq => h q (by simp [hq])) (by simp at hl ⊢; omega)
    refine ⟨m2, ?_, g1.trans g2⟩
    rw [List.map_cons]
    unfold dCompL
    rw [h1]
    simp only [dYes, h3]
    rw [if_pos (by simp at hl; omega), h4]
    simp
/-- a loop in a maker of lambdas: what stands in memory afterwards is the same wherever the cells stand -/
theorem loop_allG {G : DG} {b : List (Str × Addr) → DS} {M : Mu → Prop} {E : En → Prop} : ∀ (ds : List D) (m : Mu), (∀ d ∈ ds, ∀ m, M m → ∃ m2, M m2 ∧ ∀ g e, E e → ∃ e1 e2, G d e = some e1 ∧ b g e1 m = .nx e2 m2 ∧ E e2) → M m →
    ∃ m2, M m2 ∧ ∀ g e, E e → ∃ e2, dLoop G (b g) ds e m = .nx e2 m2 ∧ E e2
  | [], m, _, hm => ⟨m, hm, fun g e he => ⟨e, rfl, he⟩⟩
  | d :: ds, m, h, hm => by
    obtain ⟨m1, h1, k1⟩ := h d (by simp) m hm
    obtain ⟨m2, h2, k2⟩ := loop_allG ds m1 (fun d' hd => h d' (by simp [hd])) h1
    refine ⟨m2, h2, fun g e he => ?_⟩
    obtain ⟨e1, e2, a1, a2, a3⟩ := k1 g e he
    obtain ⟨e3, b1, b2⟩ := k2 g e2 a3
    exact ⟨e3, by simp only [dLoop, a1, a2]; exact b1, b2⟩
@[simp] theorem lr_law_0 : lr_law.lookup 0 = some [6, 5] := rfl
@[simp] theorem LT0_0 (c : Cs) : (LT0 c).lookup 0 = some (L_0 c) := rfl
/-- an ask that answers -/
theorem try_ret (c : Cs) {k : Nat} {ds : List D} {m m1 : Mu} {G : DFn} {d : D} (hG : (LT0 c).lookup k = some G) (hm : Cl m) (hd : belows m.length ds = true) (h1 : (LamTab.tab k).dds.length = (LamTab.tab k).ps.length) (h2 : ds.length = (LamTab.tab k).free.length) (h : G ((LamTab.tab k).dds.map D.int ++ ds) m = .ok d m1) : F_w_try c [.clo k ds] m = .ok (.tup [.str "", d]) m1 := by
  have hz : sizeLine = 16777216 := rfl
  have hb : belows m.length [] = true := rfl
  have he : dAsk (LT0 c) 0 dNil [some (D.clo k ds), none] m = G ((LamTab.tab k).dds.map D.int ++ ds) m := by
    simp [hG, hm, hd, hb, h1, h2]
  have q : B_w_try_1 c [some (D.clo k ds), none] m = .rt (.tup [.str "", d]) m1 := by
    rw [B_w_try_1_ap]
    simp [he, h, hz, -dAsk_ap]
  simp [F_w_try, env0, q]
theorem init_InvalidRatio (c : Cs) (v : D) (m : Mu) : F_InvalidRatioD_initD c [.loc m.length, v] (m ++ [.exo c.cInvalidRatio none]) = .ok .non (m ++ [.exo c.cInvalidRatio (some (m.length + 1)), .exd [("given", v), ("code", .str "InvalidRatio")]]) := by
  have hz : sizeLine = 16777216 := rfl
  have h1 : (m ++ [Mo.exo c.cInvalidRatio none])[m.length]? = some (Mo.exo c.cInvalidRatio none) := by simp
  simp [F_InvalidRatioD_initD, F_CycleErrorD_initD, env0, Mo.cls, hz]
theorem raise_InvalidRatio (c : Cs) (v : D) {m : Mu} (e : En) (hm : Cl m) (hv : below m.length v = true) : mkExc c.cInvalidRatio m e (padF 2 [] (F_InvalidRatioD_initD c) [.loc m.length, v] (m ++ [.exo c.cInvalidRatio none])) = .exc c.cInvalidRatio [("given", v), ("code", .str "InvalidRatio")] e m := by
  have h := init_InvalidRatio c v m
  simp [h, mkExc, hm, belows, below, hv]
theorem field_InvalidRatio (c : Cs) (v : D) (m : Mu) : F_w_field c [.xob ⟨c.cInvalidRatio, ["given", "code"]⟩ [v, .str "InvalidRatio"]] m = .ok (.tup [v]) m := by
  have hz : sizeLine = 16777216 := rfl
  have l1 : ∀ v w : D, List.lookup (Str.ofString "code") [(Str.ofString "given", v), (Str.ofString "code", w)] = some w := fun _ _ => rfl
  have l2 : ∀ v w : D, List.lookup (Str.ofString "given") [(Str.ofString "given", v), (Str.ofString "code", w)] = some v := fun _ _ => rfl
  have i0 : inV (V.str (Str.ofString "InvalidRatio")) [V.str (Str.ofString "InvalidLine"), V.str (Str.ofString "InvalidFact")] = false := rfl
  have i1 : inV (V.str (Str.ofString "InvalidRatio")) [V.str (Str.ofString "DuplicateName"), V.str (Str.ofString "TooShort"), V.str (Str.ofString "UnknownName")] = false := rfl
  have i2 : inV (V.str (Str.ofString "InvalidRatio")) [V.str (Str.ofString "InvalidCommand"), V.str (Str.ofString "InvalidText")] = false := rfl
  have i3 : inV (V.str (Str.ofString "InvalidRatio")) [V.str (Str.ofString "TooMany"), V.str (Str.ofString "Full")] = false := rfl
  have i4 : inV (V.str (Str.ofString "InvalidRatio")) [V.str (Str.ofString "Contradiction"), V.str (Str.ofString "Unbounded")] = false := rfl
  have j0 : gEq (.str (Str.ofString "InvalidRatio")) (.str (Str.ofString "InvalidCommand")) m = .ok (.bl false) m := rfl
  have j1 : gEq (.str (Str.ofString "InvalidRatio")) (.str (Str.ofString "TooMany")) m = .ok (.bl false) m := rfl
  have j2 : gEq (.str (Str.ofString "InvalidRatio")) (.str (Str.ofString "Contradiction")) m = .ok (.bl false) m := rfl
  have j3 : gEq (.str (Str.ofString "InvalidRatio")) (.str (Str.ofString "NothingLeft")) m = .ok (.bl false) m := rfl
  simp [F_w_field, env0, noExcR, hz, l1, l2, i0, i1, i2, i3, i4, j0, j1, j2, j3, toV, toVs]
theorem try_InvalidRatio (c : Cs) {k : Nat} {ds : List D} {m m1 : Mu} {G : DFn} {v : D} (hG : (LT0 c).lookup k = some G) (hm : Cl m) (hd : belows m.length ds = true) (h1 : (LamTab.tab k).dds.length = (LamTab.tab k).ps.length) (h2 : ds.length = (LamTab.tab k).free.length) (h : G ((LamTab.tab k).dds.map D.int ++ ds) m = .exc c.cInvalidRatio [("given", v), ("code", .str "InvalidRatio")] m1) : F_w_try c [.clo k ds] m = .ok (.tup [.str "InvalidRatio", .tup [v]]) m1 := by
  have hz : sizeLine = 16777216 := rfl
  have hb : belows m.length [] = true := rfl
  have he : dAsk (LT0 c) 0 dNil [some (D.clo k ds), none] m = G ((LamTab.tab k).dds.map D.int ++ ds) m := by
    simp [hG, hm, hd, hb, h1, h2]
  have q : B_w_try_1 c [some (D.clo k ds), none] m = .exc c.cInvalidRatio [("given", v), ("code", .str "InvalidRatio")] [some (D.clo k ds), none] m1 := by
    rw [B_w_try_1_ap]
    simp [he, h, hz, -dAsk_ap]
  have l1 : ∀ v w : D, List.lookup (Str.ofString "code") [(Str.ofString "given", v), (Str.ofString "code", w)] = some w := fun _ _ => rfl
  have e2 := field_InvalidRatio c v m1
  simp [F_w_try, env0, q, B_w_try_2_ap, l1, e2, hz]

end W

set_option maxHeartbeats 4000000
namespace W
open PySem PySem.Spec L2 DL
theorem over_ok (c : Cs) {j k : Nat} {q r : Rat} {m : Mu} (h : Sz j q) (h' : Sz k r) (h0 : r ≠ 0) (hm : Cl m) (hk : j + k < 9000 := by decide) : F_Ratio_over c [rat c q, rat c r] m = .ok (rat c (q / r)) m := by
  have e := rmk c (a := q.num * r.den) (b := q.den * r.num) (mul_ne (dne q) (num_ne h0)) (h.bd.mul h'.n) hk hm
  rw [div_di] at e
  have bo := bool_ok c r m
  have hn := num_ne h0
  simp [F_Ratio_over, env0, bo, hn, top_ok, bottom_ok, nd h h' (by omega), dn h h' (by omega), e]
theorem over_bad (c : Cs) (q r : Rat) {m : Mu} (hm : Cl m) (h0 : r = 0) : F_Ratio_over c [rat c q, rat c r] m = .exc c.cInvalidRatio [("given", rat c r), ("code", .str "InvalidRatio")] m := by
  subst h0
  have bo := bool_ok c 0 m
  have er := raise_InvalidRatio c (rat c 0) (m := m) [some (rat c q), some (rat c 0)] hm (rat_below c 0 _)
  have hz : sizeLine = 16777216 := rfl
  simp [padF] at er
  have b2 : F_RatioD_boolD c [rat c 0] m = .ok (.bl false) m := bo
  simp [F_Ratio_over, env0, b2, er]
theorem overW_ok (c : Cs) {j k : Nat} {q r : Rat} {m : Mu} (h : Sz j q) (h' : Sz k r) (h0 : r ≠ 0) (hk : j + k < 9000 := by decide) : F_w_over c [fr q, fr r] m = .ok (fr (q / r)) m := by
  have e := fracR c (a := q.num * r.den) (b := q.den * r.num) (mul_ne (dne q) (num_ne h0)) (h.bd.mul h'.n) hk m
  rw [div_di] at e
  unfold fr at e ⊢
  simp [F_w_over, env0, nd h h' (by omega), dn h h' (by omega), e]
theorem ask_div (c : Cs) {q r : Rat} {m : Mu} (hq : Sz 100 q) (hr : Sz 100 r) (h0 : r ≠ 0) (hm : Cl m) : F_w_try c [.clo 0 [rat c r, rat c q]] m = .ok (.tup [.str "", rat c (q / r)]) m := by
  refine try_ret c (k := 0) (G := L_0 c) rfl hm (by simp only [belows, rat_below, Bool.and_self]) rfl rfl ?_
  have e := over_ok c hq hr h0 hm
  show L_0 c [rat c r, rat c q] m = _
  simp [L_0_ap, e]
theorem ask_zero (c : Cs) {q r : Rat} {m : Mu} (hm : Cl m) (h0 : r = 0) : F_w_try c [.clo 0 [rat c r, rat c q]] m = .ok (.tup [.str "InvalidRatio", .tup [rat c r]]) m := by
  refine try_InvalidRatio c (k := 0) (G := L_0 c) rfl hm (by simp only [belows, rat_below, Bool.and_self]) rfl rfl ?_
  have e := over_bad c q r hm h0
  show L_0 c [rat c r, rat c q] m = _
  simp [L_0_ap, e]
theorem one_rat (c : Cs) (r : Rat) (m : Mu) (ts : List Tg) (h : .own c.cRatio ∈ ts) : gNeX [(c.kRatio, padF 2 [] (F_RatioD_eqD c), ts)] 5 (.tup [rat c r]) (.tup [rat c r]) m = .ok (.bl false) m := by
  have er : solid (rat c r) = true ∧ eqX [(c.kRatio, padF 2 [] (F_RatioD_eqD c), ts)] m 4 (rat c r) (rat c r) = some true := by
    refine ⟨rfl, ?_⟩
    have e := eq_ok c r r m
    unfold rat at e ⊢
    rw [eqX_obj]
    simp [eqRow, tagOf, h, e]
  rw [gNeX_of (b := true) rfl (eqX_ref_tup (n := 4) fun z hz => by obtain rfl := List.mem_singleton.mp hz; exact er)]
  rfl
def Inv04 (e : En) : Prop := ∃ x0 x2 x3 x4 x5 x6 x7 x8 x9 x10, e = [x0, some (.loc 0), x2, x3, x4, x5, x6, x7, x8, x9, x10]
theorem body_ok (c : Cs) (d : D) (m : Mu) (h : BagOk m ∧ Cl m) : ∃ m2, (BagOk m2 ∧ Cl m2) ∧ ∀ g e, Inv04 e → ∃ e1 e2, dName 2 d e = some e1 ∧ B_law_1 c g e1 m = .nx e2 m2 ∧ Inv04 e2 := by
  have hz : sizeLine = 16777216 := rfl
  obtain ⟨hb, hc⟩ := h
  obtain ⟨q, m1, e1, hq, g1⟩ := any_frac_ok c hb
  have b1 := g1.bag hb
  obtain ⟨r0, m2, e2, hr0, g2⟩ := any_frac_ok c b1
  have b2 := g2.bag b1
  obtain ⟨v, m3, e3, v0, v1, g3⟩ := take_ok c b2 (n := 6) (by decide) (by decide)
  have b3 := g3.bag b2
  have c3 := g3.cl (g2.cl (g1.cl hc))
  obtain ⟨r, hrr, hr⟩ : ∃ r, r = (if v = 0 then q else r0) ∧ Sz 100 r := ⟨_, rfl, by split <;> assumption⟩
  have hit : ∀ v' : Int, v' = v → (if v' = 0 then fr q else fr r0) = fr r := fun v' e => by rw [e, hrr]; split <;> rfl
  have a1 := made_ok c hq c3
  have a2 := made_ok c hr c3
  have s1 := add_ok c hq hr c3
  have s2 := sub_ok c hq hr c3
  have s3 := mulR_ok c hq hr c3
  have p1 := plus_ok c hq hr (m := m3)
  have p2 := minus_ok c hq hr (m := m3)
  have p3 := times_ok c hq hr (m := m3)
  have l1 := below_ok c hq hr (m := m3)
  have l2 := below_ok c hr hq (m := m3)
  have l3 := lessW_ok c hq hr (m := m3)
  have l4 := lessW_ok c hr hq (m := m3)
  have pa := fun x => parts_ok c x m3
  have k1 := like_refl c m3 8 (.lst [fr (q + r), fr (q - r), fr (q * r)]) (by simp [plainD, hz, fr])
  have k2 := like_refl c m3 8 (.lst [.bl (decide (q < r)), .bl (decide (r < q))]) (by simp [plainD, hz])
  have k3 := like_refl c m3 8 (.lst [fr q, fr r]) (by simp [plainD, hz, fr])
  have k4 := like_refl c m3 8 (fr (q / r)) (by simp [plainD, hz, fr])
  obtain ⟨s, m4, e4, hs, g4⟩ := any_frac_ok c b3
  have b4 := g4.bag b3
  have c4 := g4.cl c3
  have a3 := made_ok c hs c4
  have t1 := add_ok c hr hs c4
  have t2 := mulR_ok c hq (hr.add hs) c4
  have t3 := mulR_ok c hq hr c4
  have t4 := mulR_ok c hq hs c4
  have t5 := add_ok c (hq.mul hr) (hq.mul hs) c4
  have t6 := eq_ok c (q * (r + s)) (q * r + q * s) m4
  have t7 := sub_ok c hq hq c4
  have t8 := rmk1 c (a := 0) c4 (k := 0)
  have t9 := eq_ok c 0 0 m4
  rw [Rat.mul_add] at t6 t2
  rw [Rat.sub_self] at t7
  simp only [Rat.intCast_zero] at t8
  have gk : GK_Ratio_is_below_0_other c = fun ds m => match pick [0, 1] (ds ++ []) with
    | some xs => F_Ratio_is_below c xs m
    | none => .stuck := rfl
  have hB : ∀ x, below m3.length (.tup [.str "", rat c x]) = true := fun x => by simp only [below, belows, rat_below, Bool.and_self]
  have hB2 : below m3.length (.tup [.str "InvalidRatio", .tup [rat c r]]) = true := by simp only [below, belows, rat_below, Bool.and_self]
  have ix0 : ∀ m, gIx (fr r) (.int 0) m = .ok (.int r.num) m := fun _ => rfl
  refine ⟨m4, ⟨b4, c4⟩, fun g e he => ?_⟩
  obtain ⟨x0, x2, x3, x4, x5, x6, x7, x8, x9, x10, rfl⟩ := he
  have hR : ∃ R, B_law_1 c g [x0, some (.loc 0), some d, x3, x4, x5, x6, x7, x8, x9, x10] m = R := ⟨_, rfl⟩
  obtain ⟨R, hR⟩ := hR
  have hR2 := hR
  have ne1 : ¬ (Str.ofString "InvalidRatio" = Str.ofString "") := by decide +kernel
  have od : ∀ ts x, dOwnEq true [(c.kRatio, padF 2 [] (F_RatioD_eqD c), ts)] (.tup [rat c r]) x m3 = .stuck := fun _ _ => rfl
  have nx := one_rat c r m3 [(.own c.cRatio), (.prim "tuple")] (by simp)
  obtain ⟨A, hA⟩ : ∃ A, q + r = A := ⟨_, rfl⟩
  obtain ⟨B, hB'⟩ : ∃ B, q - r = B := ⟨_, rfl⟩
  obtain ⟨C, hC⟩ : ∃ C, q * r = C := ⟨_, rfl⟩
  obtain ⟨D1, hD⟩ : ∃ D1, q / r = D1 := ⟨_, rfl⟩
  obtain ⟨E, hE⟩ : ∃ E, r + s = E := ⟨_, rfl⟩
  obtain ⟨F, hF⟩ : ∃ F, q * s = F := ⟨_, rfl⟩
  obtain ⟨G, hG⟩ : ∃ G, C + F = G := ⟨_, rfl⟩
  have az : r = 0 → _ := fun h => ask_zero c (q := q) c3 h
  have ad : r ≠ 0 → _ := fun h => ask_div c hq hr h c3
  have ao : r ≠ 0 → _ := fun h => overW_ok c hq hr h (m := m3)
  simp only [hA, hB', hC, hD, hE, hF, hG] at s1 s2 s3 p1 p2 p3 k1 k4 t1 t2 t3 t4 t5 t6 ad ao
  clear hA hB' hC hD hE hF hG
  obtain ⟨L1, hL1⟩ : ∃ b, decide (q < r) = b := ⟨_, rfl⟩
  obtain ⟨L2, hL2⟩ : ∃ b, decide (r < q) = b := ⟨_, rfl⟩
  simp only [hL1] at l1 l3 k2
  simp only [hL2] at l2 l4 k2
  have it : insOf m3 (.tup [rat c r]) = none := rfl
  have odn : ∀ ts x, dOwnEq true [(c.kRatio, padF 2 [] (F_RatioD_eqD c), ts)] (.tup [rat c r]) x m3 = .stuck := od
  by_cases h0 : r = 0
  · have az := az h0
    have hn := eq_true h0
    by_cases hv : v = 0
    · simp only [hv, if_true] at hrr
      subst hrr
      obtain rfl : L1 = L2 := hL1.symm.trans hL2
      simp [B_law_1_ap, e1, e2, e3, hv, hn, a1, a2, s1, s2, s3, pa, p1, p2, p3, k1, hz, l1, l2, gk, l3, l4, k2, closeDs, closeD, slotV, az, hB2, it, nx, closeR, c3, ix0, ne1, k3, e4, a3, t1, t2, t3, t4, t5, dOwnEq, eqRow, t6, t7, t8, t9] at hR2
      subst hR2
      exact ⟨_, _, rfl, hR, ⟨_, _, _, _, _, _, _, _, _, _, rfl⟩⟩
    · simp only [hv, if_false] at hrr
      subst hrr
      simp [B_law_1_ap, e1, e2, e3, hv, hn, a1, a2, s1, s2, s3, pa, p1, p2, p3, k1, hz, l1, l2, gk, l3, l4, k2, closeDs, closeD, slotV, az, hB2, it, nx, closeR, c3, ix0, ne1, k3, e4, a3, t1, t2, t3, t4, t5, dOwnEq, eqRow, t6, t7, t8, t9] at hR2
      subst hR2
      exact ⟨_, _, rfl, hR, ⟨_, _, _, _, _, _, _, _, _, _, rfl⟩⟩
  · have ad := ad h0
    have ao := ao h0
    have hn := eq_false h0
    by_cases hv : v = 0
    · simp only [hv, if_true] at hrr
      subst hrr
      obtain rfl : L1 = L2 := hL1.symm.trans hL2
      simp [B_law_1_ap, e1, e2, e3, hv, hn, a1, a2, s1, s2, s3, pa, p1, p2, p3, k1, hz, l1, l2, gk, l3, l4, k2, closeDs, closeD, slotV, ad, ao, hB, k4, closeR, c3, ix0, ne1, k3, e4, a3, t1, t2, t3, t4, t5, dOwnEq, eqRow, t6, t7, t8, t9] at hR2
      subst hR2
      exact ⟨_, _, rfl, hR, ⟨_, _, _, _, _, _, _, _, _, _, rfl⟩⟩
    · simp only [hv, if_false] at hrr
      subst hrr
      simp [B_law_1_ap, e1, e2, e3, hv, hn, a1, a2, s1, s2, s3, pa, p1, p2, p3, k1, hz, l1, l2, gk, l3, l4, k2, closeDs, closeD, slotV, ad, ao, hB, k4, closeR, c3, ix0, ne1, k3, e4, a3, t1, t2, t3, t4, t5, dOwnEq, eqRow, t6, t7, t8, t9] at hR2
      subst hR2
      exact ⟨_, _, rfl, hR, ⟨_, _, _, _, _, _, _, _, _, _, rfl⟩⟩
theorem law_true (c : Cs) (hc : c.Ok) (ns : List Int) (hl : ns.length ≤ 63) : ∃ m, F_law c [.lst (ns.map .int)] [] = .ok (.bl true) m := by
  obtain ⟨m0, e0, b0, c0⟩ := begin_ok c ns hl
  obtain ⟨m1, ⟨b1, c1⟩, h1⟩ := loop_allG (G := dName 2) (b := B_law_1 c) (E := Inv04) (M := fun m => BagOk m ∧ Cl m) (rngD 0 8) m0 (fun d _ m h => body_ok c d m h) ⟨b0, c0⟩
  refine ⟨m1, ?_⟩
  unfold F_law
  refine allG_eq fun g => ?_
  obtain ⟨e2, h2, x0, x2, x3, x4, x5, x6, x7, x8, x9, x10, rfl⟩ := h1 g [some (.lst (ns.map .int)), some (.loc 0), none, none, none, none, none, none, none, none, none] ⟨_, _, _, _, _, _, _, _, _, _, rfl⟩
  have r1 := rmk c (a := 1) (b := 2) (k := 3) (by decide) (by unfold Bi; decide) (by decide) c1
  have r2 := rmk c (a := -1) (b := 3) (k := 3) (by decide) (by unfold Bi; decide) (by decide) c1
  have z1 : Sz 3 (Rat.divInt 1 2) := Sz.di (by unfold Bi; decide) (by unfold Bi; decide) (by decide)
  have z2 : Sz 3 (Rat.divInt (-1) 3) := Sz.di (by unfold Bi; decide) (by unfold Bi; decide) (by decide)
  have ov := over_ok c z1 z2 (by decide +kernel) c1
  have pa := parts_ok c (Rat.divInt 1 2 / Rat.divInt (-1) 3) m1
  have ge := gEq_fr (Rat.divInt 1 2 / Rat.divInt (-1) 3) (Rat.divInt (-3) 2) m1
  have hd : decide (Rat.divInt 1 2 / Rat.divInt (-1) 3 = Rat.divInt (-3) 2) = true := by decide +kernel
  rw [hd] at ge
  have hf : fr (Rat.divInt (-3) 2) = .tup [.int (-3), .int 2] := by
    unfold fr
    rw [show (Rat.divInt (-3) 2).num = -3 from by decide +kernel, show (Rat.divInt (-3) 2).den = 2 from by decide +kernel]
    rfl
  rw [hf] at ge
  have gk : GK_Ratio_over_0_other c = fun ds m => match pick [0, 1] (ds ++ []) with
    | some xs => F_Ratio_over c xs m
    | none => .stuck := rfl
  have hz : sizeLine = 16777216 := rfl
  obtain ⟨P, hP⟩ : ∃ P, Rat.divInt 1 2 = P := ⟨_, rfl⟩
  obtain ⟨Q, hQ⟩ : ∃ Q, Rat.divInt (-1) 3 = Q := ⟨_, rfl⟩
  rw [hP, hQ] at ov pa ge
  rw [hP] at r1
  rw [hQ] at r2
  simp [D_law, env0, e0, h2, r1, r2, gk, ov, pa, ge, hz]
end W

set_option maxHeartbeats 0
namespace W
open PySem PySem.Spec L2 DL
abbrev dk0 : DefK := ⟨.glo "_law_begin", "_law_begin", "_law_begin", defArgs s_w_begin, defBody s_w_begin, defScope s_w_begin, []⟩
abbrev dk1 : DefK := ⟨.glo "_law_take", "_law_take", "_law_take", defArgs s_w_take, defBody s_w_take, defScope s_w_take, []⟩
abbrev dk2 : DefK := ⟨.glo "_law_one", "_law_one", "_law_one", defArgs s_w_one, defBody s_w_one, defScope s_w_one, []⟩
abbrev dk3 : DefK := ⟨.glo "_law_divisor", "_law_divisor", "_law_divisor", defArgs s_w_divisor, defBody s_w_divisor, defScope s_w_divisor, []⟩
abbrev dk4 : DefK := ⟨.glo "_law_frac", "_law_frac", "_law_frac", defArgs s_w_frac, defBody s_w_frac, defScope s_w_frac, []⟩
abbrev dk5 : DefK := ⟨.glo "_law_any_frac", "_law_any_frac", "_law_any_frac", defArgs s_w_any_frac, defBody s_w_any_frac, defScope s_w_any_frac, []⟩
abbrev dk6 : DefK := ⟨.glo "is_whole", "is_whole", "is_whole", defArgs s_is_whole, defBody s_is_whole, defScope s_is_whole, []⟩
abbrev dS0 : DefS := ⟨.meth "CycleError" "__init__", "__init__", "CycleError.__init__", defArgs s_CycleErrorD_initD, defBody s_CycleErrorD_initD, defScope s_CycleErrorD_initD, "CycleError", PySem.Challenge.pw_bothgreen_k04_sums_and_order_of_ratios.main.file⟩
abbrev dS1 : DefS := ⟨.meth "InvalidRatio" "__init__", "__init__", "InvalidRatio.__init__", defArgs s_InvalidRatioD_initD, defBody s_InvalidRatioD_initD, defScope s_InvalidRatioD_initD, "InvalidRatio", PySem.Challenge.pw_bothgreen_k04_sums_and_order_of_ratios.main.file⟩
abbrev dk7 : DefK := ⟨.glo "common_divisor", "common_divisor", "common_divisor", defArgs s_common_divisor, defBody s_common_divisor, defScope s_common_divisor, []⟩
abbrev dk8 : DefK := ⟨.meth "Ratio" "__init__", "__init__", "Ratio.__init__", defArgs s_RatioD_initD, defBody s_RatioD_initD, defScope s_RatioD_initD, [.int 1]⟩
abbrev dk9 : DefK := ⟨.glo "_law_made", "_law_made", "_law_made", defArgs s_w_made, defBody s_w_made, defScope s_w_made, []⟩
abbrev dk10 : DefK := ⟨.prop "Ratio" "bottom", "bottom", "Ratio.bottom", defArgs s_Ratio_bottom, defBody s_Ratio_bottom, defScope s_Ratio_bottom, []⟩
abbrev dk11 : DefK := ⟨.prop "Ratio" "top", "top", "Ratio.top", defArgs s_Ratio_top, defBody s_Ratio_top, defScope s_Ratio_top, []⟩
abbrev dk12 : DefK := ⟨.meth "Ratio" "__mul__", "__mul__", "Ratio.__mul__", defArgs s_RatioD_mulD, defBody s_RatioD_mulD, defScope s_RatioD_mulD, []⟩
abbrev dk13 : DefK := ⟨.glo "_law_parts", "_law_parts", "_law_parts", defArgs s_w_parts, defBody s_w_parts, defScope s_w_parts, []⟩
abbrev dk14 : DefK := ⟨.meth "Ratio" "__sub__", "__sub__", "Ratio.__sub__", defArgs s_RatioD_subD, defBody s_RatioD_subD, defScope s_RatioD_subD, []⟩
abbrev dk15 : DefK := ⟨.meth "Ratio" "__add__", "__add__", "Ratio.__add__", defArgs s_RatioD_addD, defBody s_RatioD_addD, defScope s_RatioD_addD, []⟩
abbrev dk16 : DefK := ⟨.glo "_law_times", "_law_times", "_law_times", defArgs s_w_times, defBody s_w_times, defScope s_w_times, []⟩
abbrev dk17 : DefK := ⟨.glo "_law_minus", "_law_minus", "_law_minus", defArgs s_w_minus, defBody s_w_minus, defScope s_w_minus, []⟩
abbrev dk18 : DefK := ⟨.glo "_law_plus", "_law_plus", "_law_plus", defArgs s_w_plus, defBody s_w_plus, defScope s_w_plus, []⟩
abbrev dk19 : DefK := ⟨.glo "_law_like", "_law_like", "_law_like", defArgs s_w_like, defBody s_w_like, defScope s_w_like, []⟩
abbrev dk20 : DefK := ⟨.glo "_law_less", "_law_less", "_law_less", defArgs s_w_less, defBody s_w_less, defScope s_w_less, []⟩
abbrev dk21 : DefK := ⟨.meth "Ratio" "is_below", "is_below", "Ratio.is_below", defArgs s_Ratio_is_below, defBody s_Ratio_is_below, defScope s_Ratio_is_below, []⟩
abbrev dk22 : DefK := ⟨.meth "Ratio" "__bool__", "__bool__", "Ratio.__bool__", defArgs s_RatioD_boolD, defBody s_RatioD_boolD, defScope s_RatioD_boolD, []⟩
abbrev dk23 : DefK := ⟨.meth "Ratio" "over", "over", "Ratio.over", defArgs s_Ratio_over, defBody s_Ratio_over, defScope s_Ratio_over, []⟩
abbrev dk24 : DefK := ⟨.glo "_law_field", "_law_field", "_law_field", defArgs s_w_field, defBody s_w_field, defScope s_w_field, []⟩
abbrev dk25 : DefK := ⟨.glo "_law_try", "_law_try", "_law_try", defArgs s_w_try, defBody s_w_try, defScope s_w_try, []⟩
abbrev dk26 : DefK := ⟨.glo "_law_over", "_law_over", "_law_over", defArgs s_w_over, defBody s_w_over, defScope s_w_over, []⟩
abbrev dk27 : DefK := ⟨.meth "Ratio" "__eq__", "__eq__", "Ratio.__eq__", defArgs s_RatioD_eqD, defBody s_RatioD_eqD, defScope s_RatioD_eqD, []⟩
abbrev dk28 : DefK := ⟨.glo "law", "law", "law", defArgs s_law, defBody s_law, defScope s_law, []⟩
def q0 (K : PySem.W.Frag) : Bool := (He.Fa.free "super").ok K
def q1 (K : PySem.W.Frag) : Bool := He.eqO (PySem.W.nsIn K cStatics "thirdparty.any") (some none)
def q2 (K : PySem.W.Frag) : Bool := (He.Fa.glo "_law_begin").ok K
def q3 (K : PySem.W.Frag) : Bool := (He.Fa.glo "_law_take").ok K
def q4 (K : PySem.W.Frag) : Bool := (He.Fa.glo "_law_one").ok K
def q5 (K : PySem.W.Frag) : Bool := (He.Fa.glo "_law_divisor").ok K
def q6 (K : PySem.W.Frag) : Bool := (He.Fa.glo "_law_frac").ok K
def q7 (K : PySem.W.Frag) : Bool := (He.Fa.glo "_law_any_frac").ok K
def q8 (K : PySem.W.Frag) : Bool := (He.Fa.glo "is_whole").ok K
def q9 (K : PySem.W.Frag) : Bool := He.eqO (PySem.W.findIn K (.ref (He.ga K "CycleError")) "__init__") (some (some (.ref (He.ma K (He.ga K "CycleError") "__init__"))))
def q10 (K : PySem.W.Frag) : Bool := PySem.W.isFn K (.ref (He.ma K (He.ga K "CycleError") "__init__"))
def q11 (K : PySem.W.Frag) : Bool := decide (PySem.W.typeIn K (.ref (He.ma K (He.ga K "CycleError") "__init__")) = some (.type "function"))
def q12 (K : PySem.W.Frag) : Bool := PySem.W.fnIn K (He.ma K (He.ga K "CycleError") "__init__")
def q13 (K : PySem.W.Frag) : Bool := He.eqO (PySem.W.ks_superIn K (He.ga K "InvalidRatio") (He.ga K "InvalidRatio") "__init__") (some (some (.ref (He.ma K (He.ga K "CycleError") "__init__"))))
def q14 (K : PySem.W.Frag) : Bool := decide (PySem.W.mroIn K (He.ga K "InvalidRatio") (.ref (He.ga K "InvalidRatio")) = some true)
def q15 (K : PySem.W.Frag) : Bool := He.eqO (PySem.W.findIn K (.ref (He.ga K "InvalidRatio")) "__init__") (some (some (.ref (He.ma K (He.ga K "InvalidRatio") "__init__"))))
def q16 (K : PySem.W.Frag) : Bool := PySem.W.isFn K (.ref (He.ma K (He.ga K "InvalidRatio") "__init__"))
def q17 (K : PySem.W.Frag) : Bool := decide (PySem.W.typeIn K (.ref (He.ma K (He.ga K "InvalidRatio") "__init__")) = some (.type "function"))
def q18 (K : PySem.W.Frag) : Bool := PySem.W.fnIn K (He.ma K (He.ga K "InvalidRatio") "__init__")
def q19 (K : PySem.W.Frag) : Bool := (He.Fa.glo "common_divisor").ok K
def q20 (K : PySem.W.Frag) : Bool := He.eqO (PySem.W.findIn K (.ref (He.ga K "Ratio")) "__init__") (some (some (.ref (He.ma K (He.ga K "Ratio") "__init__"))))
def q21 (K : PySem.W.Frag) : Bool := PySem.W.isFn K (.ref (He.ma K (He.ga K "Ratio") "__init__"))
def q22 (K : PySem.W.Frag) : Bool := (He.Fa.glo "_law_made").ok K
def q23 (K : PySem.W.Frag) : Bool := He.eqO (PySem.W.specialIn K (.ref (He.ma K (He.ga K "Ratio") "bottom")) "__get__") (some (some (.builtin "property.__get__")))
def q24 (K : PySem.W.Frag) : Bool := decide (PySem.W.takesIn K (.ref (He.ma K (He.ga K "Ratio") "bottom")) = some true)
def q25 (K : PySem.W.Frag) : Bool := recB K "property" (He.ma K (He.ga K "Ratio") "bottom")
def q26 (K : PySem.W.Frag) : Bool := He.eqO (PySem.W.findIn K (.ref (He.ga K "Ratio")) "bottom") (some (some (.ref (He.ma K (He.ga K "Ratio") "bottom"))))
def q27 (K : PySem.W.Frag) : Bool := He.eqO (PySem.W.specialIn K (.ref (He.ma K (He.ga K "Ratio") "top")) "__get__") (some (some (.builtin "property.__get__")))
def q28 (K : PySem.W.Frag) : Bool := decide (PySem.W.takesIn K (.ref (He.ma K (He.ga K "Ratio") "top")) = some true)
def q29 (K : PySem.W.Frag) : Bool := recB K "property" (He.ma K (He.ga K "Ratio") "top")
def q30 (K : PySem.W.Frag) : Bool := He.eqO (PySem.W.findIn K (.ref (He.ga K "Ratio")) "top") (some (some (.ref (He.ma K (He.ga K "Ratio") "top"))))
def q31 (K : PySem.W.Frag) : Bool := He.eqO (PySem.W.findIn K (.ref (He.ga K "Ratio")) "__mul__") (some (some (.ref (He.ma K (He.ga K "Ratio") "__mul__"))))
def q32 (K : PySem.W.Frag) : Bool := PySem.W.isFn K (.ref (He.ma K (He.ga K "Ratio") "__mul__"))
def q33 (K : PySem.W.Frag) : Bool := (He.Fa.glo "_law_parts").ok K
def q34 (K : PySem.W.Frag) : Bool := He.eqO (PySem.W.findIn K (.ref (He.ga K "Ratio")) "__sub__") (some (some (.ref (He.ma K (He.ga K "Ratio") "__sub__"))))
def q35 (K : PySem.W.Frag) : Bool := PySem.W.isFn K (.ref (He.ma K (He.ga K "Ratio") "__sub__"))
def q36 (K : PySem.W.Frag) : Bool := He.eqO (PySem.W.findIn K (.ref (He.ga K "Ratio")) "__add__") (some (some (.ref (He.ma K (He.ga K "Ratio") "__add__"))))
def q37 (K : PySem.W.Frag) : Bool := PySem.W.isFn K (.ref (He.ma K (He.ga K "Ratio") "__add__"))
def q38 (K : PySem.W.Frag) : Bool := (He.Fa.glo "_law_times").ok K
def q39 (K : PySem.W.Frag) : Bool := (He.Fa.glo "_law_minus").ok K
def q40 (K : PySem.W.Frag) : Bool := (He.Fa.glo "_law_plus").ok K
def q41 (K : PySem.W.Frag) : Bool := (He.Fa.glo "_law_like").ok K
def q42 (K : PySem.W.Frag) : Bool := (He.Fa.glo "_law_less").ok K
def q43 (K : PySem.W.Frag) : Bool := He.eqO (PySem.W.findIn K (.ref (He.ga K "Ratio")) "is_below") (some (some (.ref (He.ma K (He.ga K "Ratio") "is_below"))))
def q44 (K : PySem.W.Frag) : Bool := PySem.W.isFn K (.ref (He.ma K (He.ga K "Ratio") "is_below"))
def q45 (K : PySem.W.Frag) : Bool := He.eqO (PySem.W.findIn K (.ref (He.ga K "Ratio")) "__bool__") (some (some (.ref (He.ma K (He.ga K "Ratio") "__bool__"))))
def q46 (K : PySem.W.Frag) : Bool := PySem.W.isFn K (.ref (He.ma K (He.ga K "Ratio") "__bool__"))
def q47 (K : PySem.W.Frag) : Bool := He.eqO (PySem.W.findIn K (.ref (He.ga K "Ratio")) "over") (some (some (.ref (He.ma K (He.ga K "Ratio") "over"))))
def q48 (K : PySem.W.Frag) : Bool := PySem.W.isFn K (.ref (He.ma K (He.ga K "Ratio") "over"))
def q49 (K : PySem.W.Frag) : Bool := (He.Fa.glo "_law_field").ok K
def q50 (K : PySem.W.Frag) : Bool := (He.Fa.glo "_law_try").ok K
def q51 (K : PySem.W.Frag) : Bool := (He.Fa.glo "_law_over").ok K
def q52 (K : PySem.W.Frag) : Bool := He.eqO (PySem.W.findIn K (.ref (He.ga K "Ratio")) "__eq__") (some (some (.ref (He.ma K (He.ga K "Ratio") "__eq__"))))
def q53 (K : PySem.W.Frag) : Bool := PySem.W.isFn K (.ref (He.ma K (He.ga K "Ratio") "__eq__"))
def q54 (K : PySem.W.Frag) : Bool := (He.Fa.glo "law").ok K
def q55 (K : PySem.W.Frag) : Bool := (He.Fa.free "abs").ok K
def q56 (K : PySem.W.Frag) : Bool := (He.Fa.free "all").ok K
def q57 (K : PySem.W.Frag) : Bool := (He.Fa.free "bool").ok K
def q58 (K : PySem.W.Frag) : Bool := (He.Fa.free "int").ok K
def q59 (K : PySem.W.Frag) : Bool := (He.Fa.free "isinstance").ok K
def q60 (K : PySem.W.Frag) : Bool := (He.Fa.free "len").ok K
def q61 (K : PySem.W.Frag) : Bool := (He.Fa.free "list").ok K
def q62 (K : PySem.W.Frag) : Bool := (He.Fa.free "range").ok K
def q63 (K : PySem.W.Frag) : Bool := (He.Fa.free "str").ok K
def q64 (K : PySem.W.Frag) : Bool := (He.Fa.free "tuple").ok K
def q65 (K : PySem.W.Frag) : Bool := (He.Fa.free "zip").ok K
def q66 (K : PySem.W.Frag) : Bool := (He.Fa.glo "CycleError").ok K
def q67 (K : PySem.W.Frag) : Bool := (He.Fa.glo "InvalidRatio").ok K
def q68 (K : PySem.W.Frag) : Bool := (He.Fa.glo "Missing").ok K
def q69 (K : PySem.W.Frag) : Bool := (He.Fa.glo "NothingLeft").ok K
def q70 (K : PySem.W.Frag) : Bool := (He.Fa.cls "Ratio").ok K
def q71 (K : PySem.W.Frag) : Bool := (He.Fa.glo "Ratio").ok K
def q72 (K : PySem.W.Frag) : Bool := PySem.W.excInitIn K (He.ga K "InvalidRatio") [.type "ValueError", .type "Exception", .type "BaseException", .type "object"] "ValueError.__new__"
def q73 (K : PySem.W.Frag) : Bool := PySem.W.hasDictIn K (He.ga K "InvalidRatio")
def q74 (K : PySem.W.Frag) : Bool := He.eqO (PySem.W.findIn K (.ref (He.ga K "InvalidRatio")) "__setattr__") (some (some (.builtin "object.__setattr__")))
def q75 (K : PySem.W.Frag) : Bool := decide (PySem.W.subIn K (.ref (He.ga K "InvalidRatio")) (.type "BaseException") = some true)
def q76 (K : PySem.W.Frag) : Bool := decide (PySem.W.typeIn K (.ref (He.ga K "InvalidRatio")) = some (.type "type"))
def q77 (K : PySem.W.Frag) : Bool := PySem.W.keepIn K (.ref (He.ga K "InvalidRatio"))
def q78 (K : PySem.W.Frag) : Bool := xfB K (He.ga K "InvalidRatio")
def q79 (K : PySem.W.Frag) : Bool := He.eqO (PySem.W.findIn K (.ref (He.ga K "InvalidRatio")) "code") (some none)
def q80 (K : PySem.W.Frag) : Bool := He.eqO (PySem.W.findIn K (.ref (He.ga K "InvalidRatio")) "given") (some none)
def q81 (K : PySem.W.Frag) : Bool := PySem.W.excInitIn K (He.ga K "InvalidRatio") [.type "ValueError", .type "Exception", .type "BaseException", .type "object"] "ValueError.__new__"
def q82 (K : PySem.W.Frag) : Bool := He.eqO (PySem.W.ks_superIn K (He.ga K "InvalidRatio") (He.ga K "CycleError") "__init__") (some (some (.builtin "ValueError.__init__")))
def q83 (K : PySem.W.Frag) : Bool := decide (PySem.W.mroIn K (He.ga K "InvalidRatio") (.ref (He.ga K "CycleError")) = some true)
def q84 (K : PySem.W.Frag) : Bool := decide (PySem.W.subIn K (.ref (He.ga K "InvalidRatio")) (.type "ValueError") = some true)
def q85 (K : PySem.W.Frag) : Bool := decide (PySem.W.exmAny K (.ref (He.ga K "InvalidRatio")) [.ref (He.ga K "CycleError"), .ref (He.ga K "Missing"), .ref (He.ga K "NothingLeft")] = some true)
def q86 (K : PySem.W.Frag) : Bool := PySem.W.makesIn K (He.ga K "Ratio")
def q87 (K : PySem.W.Frag) : Bool := PySem.W.keepIn K (.ref (He.ga K "Ratio"))
def q88 (K : PySem.W.Frag) : Bool := PySem.W.selfFirst K (He.ga K "Ratio")
def q89 (K : PySem.W.Frag) : Bool := (He.Fa.noat "Ratio" "own_bottom").ok K
def q90 (K : PySem.W.Frag) : Bool := (He.Fa.noat "Ratio" "own_top").ok K
def q91 (K : PySem.W.Frag) : Bool := He.eqO (PySem.W.specialIn K (.builtin "object.__class__") "__get__") (some (some (.builtin "getset_descriptor.__get__")))
def q92 (K : PySem.W.Frag) : Bool := decide (PySem.W.takesIn K (.builtin "object.__class__") = some true)
def q93 (K : PySem.W.Frag) : Bool := He.eqO (PySem.W.findIn K (.ref (He.ga K "Ratio")) "__class__") (some (some (.builtin "object.__class__")))
def q94 (K : PySem.W.Frag) : Bool := decide (PySem.W.mroIn K (He.ga K "Ratio") (.type "object") = some true)
def q95 (K : PySem.W.Frag) : Bool := PySem.W.notFirst K (He.ga K "Ratio") (.ref (He.ga K "Ratio"))
def q96 (K : PySem.W.Frag) : Bool := PySem.W.notFirst K (He.ga K "Ratio") (.type "tuple")
def q97 (K : PySem.W.Frag) : Bool := He.eqO (PySem.W.findIn K (.ref (He.ga K "Ratio")) "__ne__") (some (some (.builtin "object.__ne__")))
def q98 (K : PySem.W.Frag) : Bool := decide (PySem.W.mroIn K (He.ga K "Ratio") (.type "object") = some true)
def q99 (K : PySem.W.Frag) : Bool := decide (PySem.W.kitAny K (.type "NoneType") [.ref (He.ga K "Ratio")] = some false)
def q100 (K : PySem.W.Frag) : Bool := decide (PySem.W.kitAny K (.type "bool") [.ref (He.ga K "Ratio")] = some false)
def q101 (K : PySem.W.Frag) : Bool := decide (PySem.W.kitAny K (.type "int") [.ref (He.ga K "Ratio")] = some false)
def q102 (K : PySem.W.Frag) : Bool := decide (PySem.W.kitAny K (.type "str") [.ref (He.ga K "Ratio")] = some false)
def q103 (K : PySem.W.Frag) : Bool := decide (PySem.W.kitAny K (.type "tuple") [.ref (He.ga K "Ratio")] = some false)
def q104 (K : PySem.W.Frag) : Bool := decide (PySem.W.kitAny K (.type "list") [.ref (He.ga K "Ratio")] = some false)
def q105 (K : PySem.W.Frag) : Bool := decide (PySem.W.kitAny K (.ref (He.ga K "Ratio")) [.ref (He.ga K "Ratio")] = some true)
def q106 (K : PySem.W.Frag) : Bool := decide (PySem.W.kitAny K (.type "NoneType") [.type "bool"] = some false)
def q107 (K : PySem.W.Frag) : Bool := decide (PySem.W.kitAny K (.type "bool") [.type "bool"] = some true)
def q108 (K : PySem.W.Frag) : Bool := decide (PySem.W.kitAny K (.type "int") [.type "bool"] = some false)
def q109 (K : PySem.W.Frag) : Bool := decide (PySem.W.kitAny K (.type "str") [.type "bool"] = some false)
def q110 (K : PySem.W.Frag) : Bool := decide (PySem.W.kitAny K (.type "tuple") [.type "bool"] = some false)
def q111 (K : PySem.W.Frag) : Bool := decide (PySem.W.kitAny K (.type "list") [.type "bool"] = some false)
def q112 (K : PySem.W.Frag) : Bool := decide (PySem.W.kitAny K (.type "NoneType") [.type "int"] = some false)
def q113 (K : PySem.W.Frag) : Bool := decide (PySem.W.kitAny K (.type "bool") [.type "int"] = some true)
def q114 (K : PySem.W.Frag) : Bool := decide (PySem.W.kitAny K (.type "int") [.type "int"] = some true)
def q115 (K : PySem.W.Frag) : Bool := decide (PySem.W.kitAny K (.type "str") [.type "int"] = some false)
def q116 (K : PySem.W.Frag) : Bool := decide (PySem.W.kitAny K (.type "tuple") [.type "int"] = some false)
def q117 (K : PySem.W.Frag) : Bool := decide (PySem.W.kitAny K (.type "list") [.type "int"] = some false)
def q118 (K : PySem.W.Frag) : Bool := decide (PySem.W.kitAny K (.type "NoneType") [.type "list"] = some false)
def q119 (K : PySem.W.Frag) : Bool := decide (PySem.W.kitAny K (.type "bool") [.type "list"] = some false)
def q120 (K : PySem.W.Frag) : Bool := decide (PySem.W.kitAny K (.type "int") [.type "list"] = some false)
def q121 (K : PySem.W.Frag) : Bool := decide (PySem.W.kitAny K (.type "str") [.type "list"] = some false)
def q122 (K : PySem.W.Frag) : Bool := decide (PySem.W.kitAny K (.type "tuple") [.type "list"] = some false)
def q123 (K : PySem.W.Frag) : Bool := decide (PySem.W.kitAny K (.type "list") [.type "list"] = some true)
def q124 (K : PySem.W.Frag) : Bool := decide (PySem.W.kitAny K (.type "NoneType") [.type "list", .type "tuple"] = some false)
def q125 (K : PySem.W.Frag) : Bool := decide (PySem.W.kitAny K (.type "bool") [.type "list", .type "tuple"] = some false)
def q126 (K : PySem.W.Frag) : Bool := decide (PySem.W.kitAny K (.type "int") [.type "list", .type "tuple"] = some false)
def q127 (K : PySem.W.Frag) : Bool := decide (PySem.W.kitAny K (.type "str") [.type "list", .type "tuple"] = some false)
def q128 (K : PySem.W.Frag) : Bool := decide (PySem.W.kitAny K (.type "tuple") [.type "list", .type "tuple"] = some true)
def q129 (K : PySem.W.Frag) : Bool := decide (PySem.W.kitAny K (.type "list") [.type "list", .type "tuple"] = some true)
def q130 (K : PySem.W.Frag) : Bool := decide (PySem.W.kitAny K (.type "NoneType") [.type "str"] = some false)
def q131 (K : PySem.W.Frag) : Bool := decide (PySem.W.kitAny K (.type "bool") [.type "str"] = some false)
def q132 (K : PySem.W.Frag) : Bool := decide (PySem.W.kitAny K (.type "int") [.type "str"] = some false)
def q133 (K : PySem.W.Frag) : Bool := decide (PySem.W.kitAny K (.type "str") [.type "str"] = some true)
def q134 (K : PySem.W.Frag) : Bool := decide (PySem.W.kitAny K (.type "tuple") [.type "str"] = some false)
def q135 (K : PySem.W.Frag) : Bool := decide (PySem.W.kitAny K (.type "list") [.type "str"] = some false)
def q136 (K : PySem.W.Frag) : Bool := decide (PySem.W.kitAny K (.type "NoneType") [.type "tuple"] = some false)
def q137 (K : PySem.W.Frag) : Bool := decide (PySem.W.kitAny K (.type "bool") [.type "tuple"] = some false)
def q138 (K : PySem.W.Frag) : Bool := decide (PySem.W.kitAny K (.type "int") [.type "tuple"] = some false)
def q139 (K : PySem.W.Frag) : Bool := decide (PySem.W.kitAny K (.type "str") [.type "tuple"] = some false)
def q140 (K : PySem.W.Frag) : Bool := decide (PySem.W.kitAny K (.type "tuple") [.type "tuple"] = some true)
def q141 (K : PySem.W.Frag) : Bool := decide (PySem.W.kitAny K (.type "list") [.type "tuple"] = some false)
def q142 (K : PySem.W.Frag) : Bool := decide ((He.ga K "CycleError") ≠ (He.ga K "InvalidRatio"))
def q143 (K : PySem.W.Frag) : Bool := decide ((He.ga K "CycleError") ≠ (He.ga K "Missing"))
def q144 (K : PySem.W.Frag) : Bool := decide ((He.ga K "InvalidRatio") ≠ (He.ga K "Missing"))
def q145 (K : PySem.W.Frag) : Bool := decide ((He.ga K "CycleError") ≠ (He.ga K "NothingLeft"))
def q146 (K : PySem.W.Frag) : Bool := decide ((He.ga K "InvalidRatio") ≠ (He.ga K "NothingLeft"))
def q147 (K : PySem.W.Frag) : Bool := decide ((He.ga K "Missing") ≠ (He.ga K "NothingLeft"))
def q148 (K : PySem.W.Frag) : Bool := decide ((He.ga K "CycleError") ≠ (He.ga K "Ratio"))
def q149 (K : PySem.W.Frag) : Bool := decide ((He.ga K "InvalidRatio") ≠ (He.ga K "Ratio"))
def q150 (K : PySem.W.Frag) : Bool := decide ((He.ga K "Missing") ≠ (He.ga K "Ratio"))
def q151 (K : PySem.W.Frag) : Bool := decide ((He.ga K "NothingLeft") ≠ (He.ga K "Ratio"))
def fs0 : List (PySem.W.Frag → Bool) := [q0, q1, q2, q3, q4, q5, q6, q7, q8, q9, q10, q11, q12, q13, q14, q15, q16, q17, q18, q19, q20, q21, q22, q23, q24, q25, q26, q27, q28, q29]
def fs1 : List (PySem.W.Frag → Bool) := [q30, q31, q32, q33, q34, q35, q36, q37, q38, q39, q40, q41, q42, q43, q44, q45, q46, q47, q48, q49, q50, q51, q52, q53, q54, q55, q56, q57, q58, q59]
def fs2 : List (PySem.W.Frag → Bool) := [q60, q61, q62, q63, q64, q65, q66, q67, q68, q69, q70, q71, q72, q73, q74, q75, q76, q77, q78, q79, q80, q81, q82, q83, q84, q85, q86, q87, q88, q89]
def fs3 : List (PySem.W.Frag → Bool) := [q90, q91, q92, q93, q94, q95, q96, q97, q98, q99, q100, q101, q102, q103, q104, q105, q106, q107, q108, q109, q110, q111, q112, q113, q114, q115, q116, q117, q118, q119]
def fs4 : List (PySem.W.Frag → Bool) := [q120, q121, q122, q123, q124, q125, q126, q127, q128, q129, q130, q131, q132, q133, q134, q135, q136, q137, q138, q139, q140, q141, q142, q143, q144, q145, q146, q147, q148, q149]
def fs5 : List (PySem.W.Frag → Bool) := [q150, q151]
def fs : List (PySem.W.Frag → Bool) := fs0 ++ (fs1 ++ (fs2 ++ (fs3 ++ (fs4 ++ (fs5)))))
def ds0 : List DefK := [dk0, dk1, dk2, dk3, dk4, dk5, dk6, dk7, dk8, dk9, dk10, dk11, dk12, dk13, dk14, dk15, dk16, dk17, dk18, dk19, dk20, dk21, dk22, dk23, dk24, dk25, dk26, dk27, dk28]
def ds : List DefK := ds0
def loose0 : List Str := ["_wall", "CycleError", "Missing", "InvalidRatio", "NothingLeft", "is_whole", "LONGEST_TEXT", "FIGURES", "common_divisor", "whole_in", "Ratio", "_law_begin", "_law_take", "_law_one", "_law_like", "_law_field", "_law_try", "_law_divisor", "_law_frac", "_law_parts", "_law_plus", "_law_minus", "_law_times", "_law_over", "_law_less", "_law_made", "_law_any_frac"]
def loose : List Str := loose0
def ss : List DefS := [dS0, dS1]
def Q0 : Hd := ⟨fs, ds, ss, ["law"]⟩
theorem facts {w : World} {K : PySem.W.Frag} {h : Heap} {mg : Str → Option Value} {fa : Addr} (c : Q0.Says h K) (G : h.Ns mainGlobals mg) (hfa : mg ("law" : Str) = some (.ref fa)) :
    ∃ (fd : FuncData) (cc : Cs), cc.Ok ∧ (∀ (s : Shared) (v : Value), BindsTo s fd ⟨[v], []⟩ [("_law_script", v)]) ∧ ∀ base : Heap, K.In base → base.Ns mainGlobals mg → (∀ y ∈ Q0.ms, LamX.TabB base mg (codeA K (He.ga K y)) (tabA K (He.ga K y))) → FnD PySem.Challenge.rw_bothgreen_k04_sums_and_order_of_ratios.prog w K mg base 11 fa fd ["_law_script"] (F_law cc) := by
  have X := c.kin
  obtain ⟨fd0, F0⟩ := c.df 0 (d := dk0) rfl
  obtain ⟨fd1, F1⟩ := c.df 1 (d := dk1) rfl
  obtain ⟨fd2, F2⟩ := c.df 2 (d := dk2) rfl
  obtain ⟨fd3, F3⟩ := c.df 3 (d := dk3) rfl
  obtain ⟨fd4, F4⟩ := c.df 4 (d := dk4) rfl
  obtain ⟨fd5, F5⟩ := c.df 5 (d := dk5) rfl
  obtain ⟨fd6, F6⟩ := c.df 6 (d := dk6) rfl
  obtain ⟨sd0, S0⟩ := c.sf (P := PySem.Challenge.rw_bothgreen_k04_sums_and_order_of_ratios.prog) 0 (d := dS0) rfl rfl
  obtain ⟨sd1, S1⟩ := c.sf (P := PySem.Challenge.rw_bothgreen_k04_sums_and_order_of_ratios.prog) 1 (d := dS1) rfl rfl
  obtain ⟨fd7, F7⟩ := c.df 7 (d := dk7) rfl
  obtain ⟨fd8, F8⟩ := c.df 8 (d := dk8) rfl
  obtain ⟨fd9, F9⟩ := c.df 9 (d := dk9) rfl
  obtain ⟨fd10, F10⟩ := c.df 10 (d := dk10) rfl
  obtain ⟨fd11, F11⟩ := c.df 11 (d := dk11) rfl
  obtain ⟨fd12, F12⟩ := c.df 12 (d := dk12) rfl
  obtain ⟨fd13, F13⟩ := c.df 13 (d := dk13) rfl
  obtain ⟨fd14, F14⟩ := c.df 14 (d := dk14) rfl
  obtain ⟨fd15, F15⟩ := c.df 15 (d := dk15) rfl
  obtain ⟨fd16, F16⟩ := c.df 16 (d := dk16) rfl
  obtain ⟨fd17, F17⟩ := c.df 17 (d := dk17) rfl
  obtain ⟨fd18, F18⟩ := c.df 18 (d := dk18) rfl
  obtain ⟨fd19, F19⟩ := c.df 19 (d := dk19) rfl
  obtain ⟨fd20, F20⟩ := c.df 20 (d := dk20) rfl
  obtain ⟨fd21, F21⟩ := c.df 21 (d := dk21) rfl
  obtain ⟨fd22, F22⟩ := c.df 22 (d := dk22) rfl
  obtain ⟨fd23, F23⟩ := c.df 23 (d := dk23) rfl
  obtain ⟨fd24, F24⟩ := c.df 24 (d := dk24) rfl
  obtain ⟨fd25, F25⟩ := c.df 25 (d := dk25) rfl
  obtain ⟨fd26, F26⟩ := c.df 26 (d := dk26) rfl
  obtain ⟨fd27, F27⟩ := c.df 27 (d := dk27) rfl
  obtain ⟨fd28, F28⟩ := c.df 28 (d := dk28) rfl
  have e := hfa.symm.trans (He.glo_ok X G (c.fact 54 (f := q54) rfl))
  cases e
  have b := FunD.bindsA (ps := ["_law_script"]) F28 fun _ _ _ _ _ _ us hl => match us, hl with | [_], _ => rfl
  have htop : (PySem.Challenge.rw_bothgreen_k04_sums_and_order_of_ratios.prog.main.scope.names.lookup ("super" : Str)).isSome = false := by kernel_rfl
  refine ⟨fd28, ⟨(He.ga K "CycleError"), (He.ga K "InvalidRatio"), (He.ga K "Missing"), (He.ga K "NothingLeft"), (He.ga K "Ratio")⟩, ⟨(of_decide_eq_true (show decide ((He.ga K "CycleError") ≠ (He.ga K "InvalidRatio")) = true from (c.fact 142 (f := q142) rfl))), (of_decide_eq_true (show decide ((He.ga K "CycleError") ≠ (He.ga K "Missing")) = true from (c.fact 143 (f := q143) rfl))), (of_decide_eq_true (show decide ((He.ga K "InvalidRatio") ≠ (He.ga K "Missing")) = true from (c.fact 144 (f := q144) rfl))), (of_decide_eq_true (show decide ((He.ga K "CycleError") ≠ (He.ga K "NothingLeft")) = true from (c.fact 145 (f := q145) rfl))), (of_decide_eq_true (show decide ((He.ga K "InvalidRatio") ≠ (He.ga K "NothingLeft")) = true from (c.fact 146 (f := q146) rfl))), (of_decide_eq_true (show decide ((He.ga K "Missing") ≠ (He.ga K "NothingLeft")) = true from (c.fact 147 (f := q147) rfl))), (of_decide_eq_true (show decide ((He.ga K "CycleError") ≠ (He.ga K "Ratio")) = true from (c.fact 148 (f := q148) rfl))), (of_decide_eq_true (show decide ((He.ga K "InvalidRatio") ≠ (He.ga K "Ratio")) = true from (c.fact 149 (f := q149) rfl))), (of_decide_eq_true (show decide ((He.ga K "Missing") ≠ (He.ga K "Ratio")) = true from (c.fact 150 (f := q150) rfl))), (of_decide_eq_true (show decide ((He.ga K "NothingLeft") ≠ (He.ga K "Ratio")) = true from (c.fact 151 (f := q151) rfl))), trivial⟩, fun s v => b s [v] rfl, fun base _ _ hT => ?_⟩
  have T : Txt PySem.Challenge.rw_bothgreen_k04_sums_and_order_of_ratios.prog K mg base ⟨(He.ga K "CycleError"), (He.ga K "InvalidRatio"), (He.ga K "Missing"), (He.ga K "NothingLeft"), (He.ga K "Ratio")⟩ := {
    sup := ⟨htop, He.free_ok X G (c.fact 0 (f := q0) rfl), (show PySem.W.nsIn K cStatics "thirdparty.any" = some none from He.eqO_ok (c.fact 1 (f := q1) rfl))⟩
    fn_w_begin := ⟨_, _, He.glo_ok X G (c.fact 2 (f := q2) rfl), F0⟩
    fn_w_take := ⟨_, _, He.glo_ok X G (c.fact 3 (f := q3) rfl), F1⟩
    fn_w_one := ⟨_, _, He.glo_ok X G (c.fact 4 (f := q4) rfl), F2⟩
    fn_w_divisor := ⟨_, _, He.glo_ok X G (c.fact 5 (f := q5) rfl), F3⟩
    fn_w_frac := ⟨_, _, He.glo_ok X G (c.fact 6 (f := q6) rfl), F4⟩
    fn_w_any_frac := ⟨_, _, He.glo_ok X G (c.fact 7 (f := q7) rfl), F5⟩
    fn_is_whole := ⟨_, _, He.glo_ok X G (c.fact 8 (f := q8) rfl), F6⟩
    me_CycleErrorD_initD := ⟨_, _, _, (show PySem.W.findIn K (.ref (He.ga K "CycleError")) "__init__" = some (some (.ref (He.ma K (He.ga K "CycleError") "__init__"))) from He.eqO_ok (c.fact 9 (f := q9) rfl)), (show PySem.W.isFn K (.ref (He.ma K (He.ga K "CycleError") "__init__")) = true from (c.fact 10 (f := q10) rfl)), (of_decide_eq_true (show decide (PySem.W.typeIn K (.ref (He.ma K (He.ga K "CycleError") "__init__")) = some (.type "function")) = true from (c.fact 11 (f := q11) rfl))), (show PySem.W.fnIn K (He.ma K (He.ga K "CycleError") "__init__") = true from (c.fact 12 (f := q12) rfl)), ⟨(show PySem.W.ks_superIn K (He.ga K "InvalidRatio") (He.ga K "InvalidRatio") "__init__" = some (some (.ref (He.ma K (He.ga K "CycleError") "__init__"))) from He.eqO_ok (c.fact 13 (f := q13) rfl)), (of_decide_eq_true (show decide (PySem.W.mroIn K (He.ga K "InvalidRatio") (.ref (He.ga K "InvalidRatio")) = some true) = true from (c.fact 14 (f := q14) rfl)))⟩, S0⟩
    me_InvalidRatioD_initD := ⟨_, _, _, (show PySem.W.findIn K (.ref (He.ga K "InvalidRatio")) "__init__" = some (some (.ref (He.ma K (He.ga K "InvalidRatio") "__init__"))) from He.eqO_ok (c.fact 15 (f := q15) rfl)), (show PySem.W.isFn K (.ref (He.ma K (He.ga K "InvalidRatio") "__init__")) = true from (c.fact 16 (f := q16) rfl)), (of_decide_eq_true (show decide (PySem.W.typeIn K (.ref (He.ma K (He.ga K "InvalidRatio") "__init__")) = some (.type "function")) = true from (c.fact 17 (f := q17) rfl))), (show PySem.W.fnIn K (He.ma K (He.ga K "InvalidRatio") "__init__") = true from (c.fact 18 (f := q18) rfl)), S1⟩
    fn_common_divisor := ⟨_, _, He.glo_ok X G (c.fact 19 (f := q19) rfl), F7⟩
    me_RatioD_initD := ⟨_, _, (show PySem.W.findIn K (.ref (He.ga K "Ratio")) "__init__" = some (some (.ref (He.ma K (He.ga K "Ratio") "__init__"))) from He.eqO_ok (c.fact 20 (f := q20) rfl)), (show PySem.W.isFn K (.ref (He.ma K (He.ga K "Ratio") "__init__")) = true from (c.fact 21 (f := q21) rfl)), F8⟩
    fn_w_made := ⟨_, _, He.glo_ok X G (c.fact 22 (f := q22) rfl), F9⟩
    pr_Ratio_bottom := ⟨_, _, _, ⟨(show PySem.W.findIn K (.ref (He.ga K "Ratio")) "bottom" = some (some (.ref (He.ma K (He.ga K "Ratio") "bottom"))) from He.eqO_ok (c.fact 26 (f := q26) rfl)), (show PySem.W.specialIn K (.ref (He.ma K (He.ga K "Ratio") "bottom")) "__get__" = some (some (.builtin "property.__get__")) from He.eqO_ok (c.fact 23 (f := q23) rfl)), (of_decide_eq_true (show decide (PySem.W.takesIn K (.ref (He.ma K (He.ga K "Ratio") "bottom")) = some true) = true from (c.fact 24 (f := q24) rfl))), (recB_ok (c.fact 25 (f := q25) rfl))⟩, F10⟩
    pr_Ratio_top := ⟨_, _, _, ⟨(show PySem.W.findIn K (.ref (He.ga K "Ratio")) "top" = some (some (.ref (He.ma K (He.ga K "Ratio") "top"))) from He.eqO_ok (c.fact 30 (f := q30) rfl)), (show PySem.W.specialIn K (.ref (He.ma K (He.ga K "Ratio") "top")) "__get__" = some (some (.builtin "property.__get__")) from He.eqO_ok (c.fact 27 (f := q27) rfl)), (of_decide_eq_true (show decide (PySem.W.takesIn K (.ref (He.ma K (He.ga K "Ratio") "top")) = some true) = true from (c.fact 28 (f := q28) rfl))), (recB_ok (c.fact 29 (f := q29) rfl))⟩, F11⟩
    me_RatioD_mulD := ⟨_, _, (show PySem.W.findIn K (.ref (He.ga K "Ratio")) "__mul__" = some (some (.ref (He.ma K (He.ga K "Ratio") "__mul__"))) from He.eqO_ok (c.fact 31 (f := q31) rfl)), (show PySem.W.isFn K (.ref (He.ma K (He.ga K "Ratio") "__mul__")) = true from (c.fact 32 (f := q32) rfl)), F12⟩
    fn_w_parts := ⟨_, _, He.glo_ok X G (c.fact 33 (f := q33) rfl), F13⟩
    me_RatioD_subD := ⟨_, _, (show PySem.W.findIn K (.ref (He.ga K "Ratio")) "__sub__" = some (some (.ref (He.ma K (He.ga K "Ratio") "__sub__"))) from He.eqO_ok (c.fact 34 (f := q34) rfl)), (show PySem.W.isFn K (.ref (He.ma K (He.ga K "Ratio") "__sub__")) = true from (c.fact 35 (f := q35) rfl)), F14⟩
    me_RatioD_addD := ⟨_, _, (show PySem.W.findIn K (.ref (He.ga K "Ratio")) "__add__" = some (some (.ref (He.ma K (He.ga K "Ratio") "__add__"))) from He.eqO_ok (c.fact 36 (f := q36) rfl)), (show PySem.W.isFn K (.ref (He.ma K (He.ga K "Ratio") "__add__")) = true from (c.fact 37 (f := q37) rfl)), F15⟩
    fn_w_times := ⟨_, _, He.glo_ok X G (c.fact 38 (f := q38) rfl), F16⟩
    fn_w_minus := ⟨_, _, He.glo_ok X G (c.fact 39 (f := q39) rfl), F17⟩
    fn_w_plus := ⟨_, _, He.glo_ok X G (c.fact 40 (f := q40) rfl), F18⟩
    fn_w_like := ⟨_, _, He.glo_ok X G (c.fact 41 (f := q41) rfl), F19⟩
    fn_w_less := ⟨_, _, He.glo_ok X G (c.fact 42 (f := q42) rfl), F20⟩
    me_Ratio_is_below := ⟨_, _, (show PySem.W.findIn K (.ref (He.ga K "Ratio")) "is_below" = some (some (.ref (He.ma K (He.ga K "Ratio") "is_below"))) from He.eqO_ok (c.fact 43 (f := q43) rfl)), (show PySem.W.isFn K (.ref (He.ma K (He.ga K "Ratio") "is_below")) = true from (c.fact 44 (f := q44) rfl)), F21⟩
    me_RatioD_boolD := ⟨_, _, (show PySem.W.findIn K (.ref (He.ga K "Ratio")) "__bool__" = some (some (.ref (He.ma K (He.ga K "Ratio") "__bool__"))) from He.eqO_ok (c.fact 45 (f := q45) rfl)), (show PySem.W.isFn K (.ref (He.ma K (He.ga K "Ratio") "__bool__")) = true from (c.fact 46 (f := q46) rfl)), F22⟩
    me_Ratio_over := ⟨_, _, (show PySem.W.findIn K (.ref (He.ga K "Ratio")) "over" = some (some (.ref (He.ma K (He.ga K "Ratio") "over"))) from He.eqO_ok (c.fact 47 (f := q47) rfl)), (show PySem.W.isFn K (.ref (He.ma K (He.ga K "Ratio") "over")) = true from (c.fact 48 (f := q48) rfl)), F23⟩
    fn_w_field := ⟨_, _, He.glo_ok X G (c.fact 49 (f := q49) rfl), F24⟩
    fn_w_try := ⟨_, _, He.glo_ok X G (c.fact 50 (f := q50) rfl), F25⟩
    fn_w_over := ⟨_, _, He.glo_ok X G (c.fact 51 (f := q51) rfl), F26⟩
    me_RatioD_eqD := ⟨_, _, (show PySem.W.findIn K (.ref (He.ga K "Ratio")) "__eq__" = some (some (.ref (He.ma K (He.ga K "Ratio") "__eq__"))) from He.eqO_ok (c.fact 52 (f := q52) rfl)), (show PySem.W.isFn K (.ref (He.ma K (He.ga K "Ratio") "__eq__")) = true from (c.fact 53 (f := q53) rfl)), F27⟩
    fn_law := ⟨_, _, He.glo_ok X G (c.fact 54 (f := q54) rfl), ⟨(codeB_ok (c.ms "law" (List.mem_of_getElem? (i := 0) rfl)).1).1, hT "law" (List.mem_of_getElem? (i := 0) rfl), List.mem_of_getElem? (i := 0) rfl, fun p hp _ => by rw [List.mem_singleton.mp hp]⟩, F28⟩
    b_abs := He.free_ok X G (c.fact 55 (f := q55) rfl)
    b_all := He.free_ok X G (c.fact 56 (f := q56) rfl)
    b_bool := He.free_ok X G (c.fact 57 (f := q57) rfl)
    b_int := He.free_ok X G (c.fact 58 (f := q58) rfl)
    b_isinstance := He.free_ok X G (c.fact 59 (f := q59) rfl)
    b_len := He.free_ok X G (c.fact 60 (f := q60) rfl)
    b_list := He.free_ok X G (c.fact 61 (f := q61) rfl)
    b_range := He.free_ok X G (c.fact 62 (f := q62) rfl)
    b_str := He.free_ok X G (c.fact 63 (f := q63) rfl)
    b_tuple := He.free_ok X G (c.fact 64 (f := q64) rfl)
    b_zip := He.free_ok X G (c.fact 65 (f := q65) rfl)
    gc_CycleError := He.glo_ok X G (c.fact 66 (f := q66) rfl)
    gc_InvalidRatio := He.glo_ok X G (c.fact 67 (f := q67) rfl)
    gc_Missing := He.glo_ok X G (c.fact 68 (f := q68) rfl)
    gc_NothingLeft := He.glo_ok X G (c.fact 69 (f := q69) rfl)
    cl_Ratio := (He.cls_ok (c.fact 70 (f := q70) rfl))
    gc_Ratio := He.glo_ok X G (c.fact 71 (f := q71) rfl)
    ox_InvalidRatio := ⟨⟨_, _, _, _, xb_VE, (show PySem.W.excInitIn K (He.ga K "InvalidRatio") [.type "ValueError", .type "Exception", .type "BaseException", .type "object"] "ValueError.__new__" = true from (c.fact 72 (f := q72) rfl))⟩, (show PySem.W.hasDictIn K (He.ga K "InvalidRatio") = true from (c.fact 73 (f := q73) rfl)), (show PySem.W.findIn K (.ref (He.ga K "InvalidRatio")) "__setattr__" = some (some (.builtin "object.__setattr__")) from He.eqO_ok (c.fact 74 (f := q74) rfl)), (of_decide_eq_true (show decide (PySem.W.subIn K (.ref (He.ga K "InvalidRatio")) (.type "BaseException") = some true) = true from (c.fact 75 (f := q75) rfl))), (of_decide_eq_true (show decide (PySem.W.typeIn K (.ref (He.ga K "InvalidRatio")) = some (.type "type")) = true from (c.fact 76 (f := q76) rfl))), (show PySem.W.keepIn K (.ref (He.ga K "InvalidRatio")) = true from (c.fact 77 (f := q77) rfl))⟩
    xf_InvalidRatio := xfB_ok (c.fact 78 (f := q78) rfl)
    nx_InvalidRatio_code := (show PySem.W.findIn K (.ref (He.ga K "InvalidRatio")) "code" = some none from He.eqO_ok (c.fact 79 (f := q79) rfl))
    nx_InvalidRatio_given := (show PySem.W.findIn K (.ref (He.ga K "InvalidRatio")) "given" = some none from He.eqO_ok (c.fact 80 (f := q80) rfl))
    sb_InvalidRatio_CycleError := ⟨_, _, _, _, xb_VE, (show PySem.W.excInitIn K (He.ga K "InvalidRatio") [.type "ValueError", .type "Exception", .type "BaseException", .type "object"] "ValueError.__new__" = true from (c.fact 81 (f := q81) rfl)), (show PySem.W.ks_superIn K (He.ga K "InvalidRatio") (He.ga K "CycleError") "__init__" = some (some (.builtin "ValueError.__init__")) from He.eqO_ok (c.fact 82 (f := q82) rfl)), (of_decide_eq_true (show decide (PySem.W.mroIn K (He.ga K "InvalidRatio") (.ref (He.ga K "CycleError")) = some true) = true from (c.fact 83 (f := q83) rfl))), (of_decide_eq_true (show decide (PySem.W.subIn K (.ref (He.ga K "InvalidRatio")) (.type "ValueError") = some true) = true from (c.fact 84 (f := q84) rfl)))⟩
    xm_CycleError_Missing_NothingLeft_InvalidRatio := (of_decide_eq_true (show decide (PySem.W.exmAny K (.ref (He.ga K "InvalidRatio")) [.ref (He.ga K "CycleError"), .ref (He.ga K "Missing"), .ref (He.ga K "NothingLeft")] = some true) = true from (c.fact 85 (f := q85) rfl)))
    mk_Ratio := ⟨(show PySem.W.makesIn K (He.ga K "Ratio") = true from (c.fact 86 (f := q86) rfl)), (show PySem.W.keepIn K (.ref (He.ga K "Ratio")) = true from (c.fact 87 (f := q87) rfl))⟩
    sf_Ratio := (show PySem.W.selfFirst K (He.ga K "Ratio") = true from (c.fact 88 (f := q88) rfl))
    fl_Ratio_own_bottom := ⟨(He.cls_ok (c.fact 70 (f := q70) rfl)), He.noat_ok (c.fact 89 (f := q89) rfl), (show nsRatio[1]? = some ("own_bottom" : Str) from by decide +kernel), (show ("own_bottom" : Str) ∉ nsRatio.take 1 from by decide +kernel)⟩
    fl_Ratio_own_top := ⟨(He.cls_ok (c.fact 70 (f := q70) rfl)), He.noat_ok (c.fact 90 (f := q90) rfl), (show nsRatio[0]? = some ("own_top" : Str) from by decide +kernel), (show ("own_top" : Str) ∉ nsRatio.take 0 from by decide +kernel)⟩
    in_Ratio := ⟨(He.cls_ok (c.fact 70 (f := q70) rfl)), (show PySem.W.findIn K (.ref (He.ga K "Ratio")) "__class__" = some (some (.builtin "object.__class__")) from He.eqO_ok (c.fact 93 (f := q93) rfl)), (show PySem.W.specialIn K (.builtin "object.__class__") "__get__" = some (some (.builtin "getset_descriptor.__get__")) from He.eqO_ok (c.fact 91 (f := q91) rfl)), (of_decide_eq_true (show decide (PySem.W.takesIn K (.builtin "object.__class__") = some true) = true from (c.fact 92 (f := q92) rfl))), (of_decide_eq_true (show decide (PySem.W.mroIn K (He.ga K "Ratio") (.type "object") = some true) = true from (c.fact 94 (f := q94) rfl)))⟩
    nf_Ratio_ownccRatio := (show PySem.W.notFirst K (He.ga K "Ratio") (.ref (He.ga K "Ratio")) = true from (c.fact 95 (f := q95) rfl))
    nf_Ratio_primtuple := (show PySem.W.notFirst K (He.ga K "Ratio") (.type "tuple") = true from (c.fact 96 (f := q96) rfl))
    ne_Ratio := ⟨(show PySem.W.findIn K (.ref (He.ga K "Ratio")) "__ne__" = some (some (.builtin "object.__ne__")) from He.eqO_ok (c.fact 97 (f := q97) rfl)), (of_decide_eq_true (show decide (PySem.W.mroIn K (He.ga K "Ratio") (.type "object") = some true) = true from (c.fact 98 (f := q98) rfl)))⟩
    ans_Ratio__Ratio := by
      refine ⟨fun n hn => ?_, fun p hp => ?_⟩
      · simp only [primNames, List.mem_cons, List.not_mem_nil, or_false] at hn
        rcases hn with rfl | rfl | rfl | rfl | rfl | rfl
        · exact (of_decide_eq_true (show decide (PySem.W.kitAny K (.type "NoneType") [.ref (He.ga K "Ratio")] = some false) = true from (c.fact 99 (f := q99) rfl)))
        · exact (of_decide_eq_true (show decide (PySem.W.kitAny K (.type "bool") [.ref (He.ga K "Ratio")] = some false) = true from (c.fact 100 (f := q100) rfl)))
        · exact (of_decide_eq_true (show decide (PySem.W.kitAny K (.type "int") [.ref (He.ga K "Ratio")] = some false) = true from (c.fact 101 (f := q101) rfl)))
        · exact (of_decide_eq_true (show decide (PySem.W.kitAny K (.type "str") [.ref (He.ga K "Ratio")] = some false) = true from (c.fact 102 (f := q102) rfl)))
        · exact (of_decide_eq_true (show decide (PySem.W.kitAny K (.type "tuple") [.ref (He.ga K "Ratio")] = some false) = true from (c.fact 103 (f := q103) rfl)))
        · exact (of_decide_eq_true (show decide (PySem.W.kitAny K (.type "list") [.ref (He.ga K "Ratio")] = some false) = true from (c.fact 104 (f := q104) rfl)))
      · simp only [ans_Ratio__Ratio, List.mem_cons, List.not_mem_nil, or_false] at hp
        subst hp
        · exact ⟨(of_decide_eq_true (show decide (PySem.W.kitAny K (.ref (He.ga K "Ratio")) [.ref (He.ga K "Ratio")] = some true) = true from (c.fact 105 (f := q105) rfl))), ⟨(He.cls_ok (c.fact 70 (f := q70) rfl)), (show PySem.W.findIn K (.ref (He.ga K "Ratio")) "__class__" = some (some (.builtin "object.__class__")) from He.eqO_ok (c.fact 93 (f := q93) rfl)), (show PySem.W.specialIn K (.builtin "object.__class__") "__get__" = some (some (.builtin "getset_descriptor.__get__")) from He.eqO_ok (c.fact 91 (f := q91) rfl)), (of_decide_eq_true (show decide (PySem.W.takesIn K (.builtin "object.__class__") = some true) = true from (c.fact 92 (f := q92) rfl))), (of_decide_eq_true (show decide (PySem.W.mroIn K (He.ga K "Ratio") (.type "object") = some true) = true from (c.fact 94 (f := q94) rfl)))⟩⟩

    ans_bool := by
      refine ⟨fun n hn => ?_, fun p hp => ?_⟩
      · simp only [primNames, List.mem_cons, List.not_mem_nil, or_false] at hn
        rcases hn with rfl | rfl | rfl | rfl | rfl | rfl
        · exact (of_decide_eq_true (show decide (PySem.W.kitAny K (.type "NoneType") [.type "bool"] = some false) = true from (c.fact 106 (f := q106) rfl)))
        · exact (of_decide_eq_true (show decide (PySem.W.kitAny K (.type "bool") [.type "bool"] = some true) = true from (c.fact 107 (f := q107) rfl)))
        · exact (of_decide_eq_true (show decide (PySem.W.kitAny K (.type "int") [.type "bool"] = some false) = true from (c.fact 108 (f := q108) rfl)))
        · exact (of_decide_eq_true (show decide (PySem.W.kitAny K (.type "str") [.type "bool"] = some false) = true from (c.fact 109 (f := q109) rfl)))
        · exact (of_decide_eq_true (show decide (PySem.W.kitAny K (.type "tuple") [.type "bool"] = some false) = true from (c.fact 110 (f := q110) rfl)))
        · exact (of_decide_eq_true (show decide (PySem.W.kitAny K (.type "list") [.type "bool"] = some false) = true from (c.fact 111 (f := q111) rfl)))
      · simp only [ans_bool, List.mem_cons, List.not_mem_nil, or_false] at hp

    ans_int := by
      refine ⟨fun n hn => ?_, fun p hp => ?_⟩
      · simp only [primNames, List.mem_cons, List.not_mem_nil, or_false] at hn
        rcases hn with rfl | rfl | rfl | rfl | rfl | rfl
        · exact (of_decide_eq_true (show decide (PySem.W.kitAny K (.type "NoneType") [.type "int"] = some false) = true from (c.fact 112 (f := q112) rfl)))
        · exact (of_decide_eq_true (show decide (PySem.W.kitAny K (.type "bool") [.type "int"] = some true) = true from (c.fact 113 (f := q113) rfl)))
        · exact (of_decide_eq_true (show decide (PySem.W.kitAny K (.type "int") [.type "int"] = some true) = true from (c.fact 114 (f := q114) rfl)))
        · exact (of_decide_eq_true (show decide (PySem.W.kitAny K (.type "str") [.type "int"] = some false) = true from (c.fact 115 (f := q115) rfl)))
        · exact (of_decide_eq_true (show decide (PySem.W.kitAny K (.type "tuple") [.type "int"] = some false) = true from (c.fact 116 (f := q116) rfl)))
        · exact (of_decide_eq_true (show decide (PySem.W.kitAny K (.type "list") [.type "int"] = some false) = true from (c.fact 117 (f := q117) rfl)))
      · simp only [ans_int, List.mem_cons, List.not_mem_nil, or_false] at hp

    ans_list := by
      refine ⟨fun n hn => ?_, fun p hp => ?_⟩
      · simp only [primNames, List.mem_cons, List.not_mem_nil, or_false] at hn
        rcases hn with rfl | rfl | rfl | rfl | rfl | rfl
        · exact (of_decide_eq_true (show decide (PySem.W.kitAny K (.type "NoneType") [.type "list"] = some false) = true from (c.fact 118 (f := q118) rfl)))
        · exact (of_decide_eq_true (show decide (PySem.W.kitAny K (.type "bool") [.type "list"] = some false) = true from (c.fact 119 (f := q119) rfl)))
        · exact (of_decide_eq_true (show decide (PySem.W.kitAny K (.type "int") [.type "list"] = some false) = true from (c.fact 120 (f := q120) rfl)))
        · exact (of_decide_eq_true (show decide (PySem.W.kitAny K (.type "str") [.type "list"] = some false) = true from (c.fact 121 (f := q121) rfl)))
        · exact (of_decide_eq_true (show decide (PySem.W.kitAny K (.type "tuple") [.type "list"] = some false) = true from (c.fact 122 (f := q122) rfl)))
        · exact (of_decide_eq_true (show decide (PySem.W.kitAny K (.type "list") [.type "list"] = some true) = true from (c.fact 123 (f := q123) rfl)))
      · simp only [ans_list, List.mem_cons, List.not_mem_nil, or_false] at hp

    ans_list_tuple := by
      refine ⟨fun n hn => ?_, fun p hp => ?_⟩
      · simp only [primNames, List.mem_cons, List.not_mem_nil, or_false] at hn
        rcases hn with rfl | rfl | rfl | rfl | rfl | rfl
        · exact (of_decide_eq_true (show decide (PySem.W.kitAny K (.type "NoneType") [.type "list", .type "tuple"] = some false) = true from (c.fact 124 (f := q124) rfl)))
        · exact (of_decide_eq_true (show decide (PySem.W.kitAny K (.type "bool") [.type "list", .type "tuple"] = some false) = true from (c.fact 125 (f := q125) rfl)))
        · exact (of_decide_eq_true (show decide (PySem.W.kitAny K (.type "int") [.type "list", .type "tuple"] = some false) = true from (c.fact 126 (f := q126) rfl)))
        · exact (of_decide_eq_true (show decide (PySem.W.kitAny K (.type "str") [.type "list", .type "tuple"] = some false) = true from (c.fact 127 (f := q127) rfl)))
        · exact (of_decide_eq_true (show decide (PySem.W.kitAny K (.type "tuple") [.type "list", .type "tuple"] = some true) = true from (c.fact 128 (f := q128) rfl)))
        · exact (of_decide_eq_true (show decide (PySem.W.kitAny K (.type "list") [.type "list", .type "tuple"] = some true) = true from (c.fact 129 (f := q129) rfl)))
      · simp only [ans_list_tuple, List.mem_cons, List.not_mem_nil, or_false] at hp

    ans_str := by
      refine ⟨fun n hn => ?_, fun p hp => ?_⟩
      · simp only [primNames, List.mem_cons, List.not_mem_nil, or_false] at hn
        rcases hn with rfl | rfl | rfl | rfl | rfl | rfl
        · exact (of_decide_eq_true (show decide (PySem.W.kitAny K (.type "NoneType") [.type "str"] = some false) = true from (c.fact 130 (f := q130) rfl)))
        · exact (of_decide_eq_true (show decide (PySem.W.kitAny K (.type "bool") [.type "str"] = some false) = true from (c.fact 131 (f := q131) rfl)))
        · exact (of_decide_eq_true (show decide (PySem.W.kitAny K (.type "int") [.type "str"] = some false) = true from (c.fact 132 (f := q132) rfl)))
        · exact (of_decide_eq_true (show decide (PySem.W.kitAny K (.type "str") [.type "str"] = some true) = true from (c.fact 133 (f := q133) rfl)))
        · exact (of_decide_eq_true (show decide (PySem.W.kitAny K (.type "tuple") [.type "str"] = some false) = true from (c.fact 134 (f := q134) rfl)))
        · exact (of_decide_eq_true (show decide (PySem.W.kitAny K (.type "list") [.type "str"] = some false) = true from (c.fact 135 (f := q135) rfl)))
      · simp only [ans_str, List.mem_cons, List.not_mem_nil, or_false] at hp

    ans_tuple := by
      refine ⟨fun n hn => ?_, fun p hp => ?_⟩
      · simp only [primNames, List.mem_cons, List.not_mem_nil, or_false] at hn
        rcases hn with rfl | rfl | rfl | rfl | rfl | rfl
        · exact (of_decide_eq_true (show decide (PySem.W.kitAny K (.type "NoneType") [.type "tuple"] = some false) = true from (c.fact 136 (f := q136) rfl)))
        · exact (of_decide_eq_true (show decide (PySem.W.kitAny K (.type "bool") [.type "tuple"] = some false) = true from (c.fact 137 (f := q137) rfl)))
        · exact (of_decide_eq_true (show decide (PySem.W.kitAny K (.type "int") [.type "tuple"] = some false) = true from (c.fact 138 (f := q138) rfl)))
        · exact (of_decide_eq_true (show decide (PySem.W.kitAny K (.type "str") [.type "tuple"] = some false) = true from (c.fact 139 (f := q139) rfl)))
        · exact (of_decide_eq_true (show decide (PySem.W.kitAny K (.type "tuple") [.type "tuple"] = some true) = true from (c.fact 140 (f := q140) rfl)))
        · exact (of_decide_eq_true (show decide (PySem.W.kitAny K (.type "list") [.type "tuple"] = some false) = true from (c.fact 141 (f := q141) rfl)))
      · simp only [ans_tuple, List.mem_cons, List.not_mem_nil, or_false] at hp

  }
  exact ok_law T ⟨(codeB_ok (c.ms "law" (List.mem_of_getElem? (i := 0) rfl)).1).1, hT "law" (List.mem_of_getElem? (i := 0) rfl), List.mem_of_getElem? (i := 0) rfl, fun p hp _ => by rw [List.mem_singleton.mp hp]⟩ F28
theorem law_end {q : Program} {loose : List Str} {XP : (Str → Option Value) → Heap → Prop} {d : DefRec} {nk : Nat} (hdf : d.params.defaults = []) (hnm : d.name = ("law" : Str)) :
    PySem.W.WalkO q loose XP (Q0.hook nk).says PySem.Challenge.rw_bothgreen_k04_sums_and_order_of_ratios.row.toRowW d [] (fun f vs => PySem.call f vs) := by
  refine walk_ofX (l := PySem.Challenge.rw_bothgreen_k04_sums_and_order_of_ratios) (n := 63) (k := 11) (x := "_law_script") (Q := Q0) rfl (by decide) hdf ⟨rfl, by decide, by decide⟩ fun w mg fa h K c G hmg => ?_
  rw [hnm] at hmg
  obtain ⟨fd, cc, hc, hb, hF⟩ := facts (w := w) c G hmg
  exact ⟨fd, spLaw K, hb, fun H a ns hl hT hS => ⟨a, ns, rfl, hS, hl, (fun p hp => by
    have hp : p ∈ [(tabA K (He.ga K "law"), (("law" : Str) ++ (".<locals>." : Str) ++ ("<lambda>" : Str)))] := hp
    simp only [List.mem_cons, List.not_mem_nil, or_false] at hp
    subst hp; exact hT "law" (List.mem_of_getElem? (i := 0) rfl)), fun _ => rfl⟩, fun base b1 b2 b3 => law_sp (hF base b1 b2 b3) (law_true cc hc)⟩
abbrev R0 : PySem.W.OpenRow := PySem.W.OpenLaw.row PySem.Challenge.rw_bothgreen_k04_sums_and_order_of_ratios
abbrev qv : Program := PySem.W.view R0.prog [31]
def ob (s : PySem.W.SharedT) : AlX := Q0.obsG 5 (HandSHeadRun.getT s)
theorem ob_eq (s : PySem.W.SharedT) : ob s = (Q0.hook 5).obs s.abs := Hd.obs_eq (HandSHeadRun.getT_eq s)
theorem run (w : World) : HandSHeadRun.RunEq R0 qv (Q0.hook 5) ob 40000 loose w := by
  intro os
  kernel_rfl
end W
open PySem PySem.W PyProof.Rows
set_option maxRecDepth 100000 in
set_option maxHeartbeats 0 in
theorem PySem.Challenge.cw_bothgreen_k04_sums_and_order_of_ratios_holds : PySem.Challenge.rw_bothgreen_k04_sums_and_order_of_ratios.Holds := by
  w_on; o_law
  refine HandSHeadRun.head_any (r := W.R0) (q := W.qv) (H := DL.Hd.hook W.Q0 5) (ob := W.ob) (M := 40000) (loose := W.loose) (d := HandSHeadRun.topDef W.R0.prog 31) (kwd := []) W.ob_eq (by kernel_rfl) (fun s => by kernel_rfl) W.run (by kernel_rfl) (by kernel_rfl) (by kernel_rfl) (by rfl) (by first | assumption | decide +kernel) (by decide +kernel) ⟨rfl, rfl, rfl, rfl, rfl, by decide +kernel⟩ ?hw ?hc
  case hw => w_witness2
  case hc => exact W.law_end (by kernel_rfl) (by kernel_rfl)

